/- Strings, bytes, booleans, new slices of zeros. -/
import Derived.Test.YtnpienjfapjjoaaV5
import Derived.Laws.BytesArg
import Derived.Laws.Strings
import Derived.Laws.MakeOwn
namespace Go.V
class TyBool (P : Program) (T : Nat) : Prop where
  under : P.underlying T = some .bool
section
variable {P : Program} {env : Env} {L : List HP} {ty : TypeId}

theorem run_eqIn_bool {t : TypeId} {a b : Bool} {w : World} {n : Nat} (he : P.underlying t = some .bool) : (Op.equalIn (n + 1) t (.bool a) (.bool b)).run P w = .ok (a == b) w := by
  simp [Op.equalIn, run_underlying he]
theorem Ev.neqB {t yt : TypeId} {x y : Operand} {φ ψ : Prop} [Decidable φ] [Decidable ψ] [ht : TyBool P t] (hx : evE env x = some (.bool (dB φ))) (hy : evE env y = some (.bool (dB ψ))) : Ev P L env (.binOp .neq t x y yt) ty (.bool (dB (¬ (φ ↔ ψ)))) :=
  Ev.mk (fun _ _ _ w ea _ _ _ _ _ => by
    have h1 := run_eq_of (P := P) (w := w) (fun n => run_eqIn_bool (n := n) (a := dB φ) (b := dB ψ) ht.under)
    have h2 : (!(dB φ == dB ψ)) = dB (¬ (φ ↔ ψ)) := by
      rw [dB_eq, dB_eq, dB_eq]
      by_cases h : φ <;> by_cases h' : ψ <;> simp [h, h']
    simp [execOp, evE_ok ea hx, evE_ok ea hy, eqGuard, binOp, h1, h2])
theorem Ev.eqlB {t yt : TypeId} {x y : Operand} {φ ψ : Prop} [Decidable φ] [Decidable ψ] [ht : TyBool P t] (hx : evE env x = some (.bool (dB φ))) (hy : evE env y = some (.bool (dB ψ))) : Ev P L env (.binOp .eql t x y yt) ty (.bool (dB (φ ↔ ψ))) :=
  Ev.mk (fun _ _ _ w ea _ _ _ _ _ => by
    have h1 := run_eq_of (P := P) (w := w) (fun n => run_eqIn_bool (n := n) (a := dB φ) (b := dB ψ) ht.under)
    have h2 : (dB φ == dB ψ) = dB (φ ↔ ψ) := by
      rw [dB_eq, dB_eq, dB_eq]
      by_cases h : φ <;> by_cases h' : ψ <;> simp [h, h']
    simp [execOp, evE_ok ea hx, evE_ok ea hy, eqGuard, binOp, h1, h2])
theorem beq_ba (a b : ByteArray) : (a.toList == b.toList) = decide (a = b) := by
  rw [ByteArray.toList_eq, ByteArray.toList_eq]
  cases a with | mk a => cases b with | mk b =>
  by_cases h : a = b
  · subst h; simp
  · have : ¬ (a.toList = b.toList) := fun e => h (Array.ext' e)
    simp [h, this]
theorem Ev.eqlStr {t yt : TypeId} {x y : Operand} {a b : ByteArray} (hx : evE env x = some (.string a)) (hy : evE env y = some (.string b)) : Ev P L env (.binOp .eql t x y yt) ty (.bool (dB (a = b))) :=
  Ev.mk (fun _ _ _ w ea _ _ _ _ _ => by
    simp [execOp, evE_ok ea hx, evE_ok ea hy, eqGuard, binOp, Op.stringOp, dB_eq, beq_ba])
theorem Ev.neqStr {t yt : TypeId} {x y : Operand} {a b : ByteArray} (hx : evE env x = some (.string a)) (hy : evE env y = some (.string b)) : Ev P L env (.binOp .neq t x y yt) ty (.bool (dB (¬ a = b))) :=
  Ev.mk (fun _ _ _ w ea _ _ _ _ _ => by
    simp [execOp, evE_ok ea hx, evE_ok ea hy, eqGuard, binOp, Op.stringOp, dB_eq, bne, beq_ba])
theorem encI_flat (xs : List Int) (k : IntKind) : xs.flatMap (encI k) = xs.map (Value.int k) := flat_single _ xs
/-- string(bytes) -/
theorem Ev.convStr {s t : TypeId} {x : Operand} {ad : Option Addr} {n c E sz bb : Nat} {z : List Value} {xs : List Int} [hs : TySl P s E sz bb z] [he : TyInt P E .u8] [ht : TyStr P t] [hr : Rds L ad Int (encI .u8) 1 xs] (hx : evE env x = some (.slice ad n c)) (hn : n = xs.length) :
    Ev P L env (.convert s t x) ty (.string (strOfNums xs)) :=
  Ev.mk (fun θ R _ w ea st _ _ _ _ => by
    subst hn
    obtain ⟨h1, h2⟩ := hr.rd θ R w st
    have hc : (convert s t (.slice ad xs.length c)).run P w = .ok (.string (strOfNums xs)) w := by
      rw [run_convert_bytes_string w s t E ad xs.length c hs.under he.under ht.under]
      rcases h2 with rfl | ⟨a, rfl, h3⟩
      · cases ad with
        | none => simp [Conv.bytesToString, strOfNums]; rfl
        | some a =>
          have hl : (loadCells a 0).run P w = .ok (([] : List Int).map (Value.int .u8)).toArray w := by simp [loadCells, loadCellsFrom]
          exact (run_bytesToString w a 0 c [] hl).trans (by simp [strOfNums]; rfl)
      · rw [encI_flat] at h3
        have hl := run_loadCells_list (P := P) w a (xs.map (Value.int .u8)) h3
        rw [List.length_map] at hl
        rw [run_bytesToString w a xs.length c xs hl, foldl_push_bytes]
        simp [strOfNums, ByteArray.empty, ByteArray.emptyWithCapacity]
        rfl
    simp [execOp, evE_ok ea hx, hc])
/-- []byte("..") : the literal's slice becomes immutable. -/
theorem Ef.convBytes {t : TypeId} {x : Operand} {b n c E T sz bb : Nat} {z : List Value} (xs : List Int) {cs : List Value} {Rest : List HP} [ht : TySl P t E sz bb z] [he : TyInt P E .u8] [hp : PickObj L b T cs Rest] (hx : evE env x = some (.slice (some ⟨b, 0, none⟩) n c)) (hc : cs = xs.flatMap (encI .u8)) :
    Ef P L env (.convert t t x) ty (fun v L' => v = .slice (some ⟨b, 0, none⟩) n c ∧ L' = isl (encI .u8) 1 (some ⟨b, 0, none⟩) xs :: Rest) :=
  Ef.val (fun θ R ρ w ea s dst pos af g => by
    subst hc
    have s1 : Sat θ (own b (.cells (xs.flatMap (encI .u8)).toArray T (0, 0)) :: (Rest ++ R)) w := s.perm (hp.perm.append_right R)
    have hb := s1.own_heap
    have hsh : w.shape? b = some (T, (xs.flatMap (encI .u8)).length) := by simp [World.shape?, hb]
    refine ⟨_, w.freeze ⟨b, (xs.flatMap (encI .u8)).length, none⟩ 1, _, by simp [execOp, evE_ok ea hx, convert, run_underlying ht.under, run_underlying he.under, markStringish, hsh], ⟨rfl, rfl⟩, ?_⟩
    have hlt : b < w.heap.size := by
      rcases Nat.lt_or_ge b w.heap.size with h | h
      · exact h
      · rw [Array.getElem?_eq_none h] at hb; cases hb
    have s2 : Sat θ (own b (.cells (xs.flatMap (encI .u8)).toArray T ((xs.flatMap (encI .u8)).length, (xs.flatMap (encI .u8)).length + 1)) :: (Rest ++ R)) (w.freeze ⟨b, (xs.flatMap (encI .u8)).length, none⟩ 1) := by
      refine s1.update ⟨s.1.tape, s.1.os, s.1.output⟩ ?_ ?_
      · simp only [World.freeze, if_neg (show ¬ (1 = 0) by decide), Array.getElem?_modify, if_true, hb, Option.map_some]
        simp
      · intro k o hk h
        simp only [World.freeze, if_neg (show ¬ (1 = 0) by decide), Array.getElem?_modify]
        rw [if_neg (fun e => hk e.symm)]
        exact h
    obtain ⟨ok, ι, h, a, b1, c1, ι₀, h₁, h₂, d1, d2, d3, d4, d5, d6⟩ := s2.freeze
    refine ⟨ok, ι, h, a, b1, c1, ι₀, h₁, h₂, d1, d2, d3, d4, ⟨fun _ _ => rfl, .inr ⟨b, 0, _, _, _, rfl, d5, ?_⟩⟩, d6⟩
    intro i v hv
    simpa using hv)
theorem range_map_const {α : Type} [Inhabited α] (f : Nat → α) (x : α) (n : Nat) (h : ∀ i, i < n → f i = x) : (Array.range n).map f = (List.replicate n x).toArray := by
  apply Array.ext
  · simp
  · intro i h1 h2
    simp at h1 ⊢
    exact h i h1
/-- make([]T, n), T of one cell. -/
theorem Ef.makeSlice {t : TypeId} {x y : Operand} {E bb : Nat} {z0 : Value} {α : Type} (enc : α → List Value) (e : α) {n : Int} [ht : TySl P t E 1 bb [z0]] (hx : evE env x = some (.int .i64 n)) (hy : evE env y = some (.int .i64 n)) (he : enc e = [z0]) (h0 : 0 ≤ n) (h1 : n * bb ≤ 16777216) (h2 : n ≤ 1000000000) :
    Ef P L env (.makeSlice t x y) ty (fun v L' => ∃ b, v = .slice (some ⟨b, 0, none⟩) n.toNat n.toNat ∧ L' = osl enc 1 E (some ⟨b, 0, none⟩) n.toNat (List.replicate n.toNat e) :: L) :=
  Ef.val (fun θ R a w ea s dst pos af g => ⟨.slice (some ⟨w.heap.size, 0, none⟩) n.toNat n.toNat, w.alloc (.cells (List.replicate n.toNat z0).toArray E), _, by
    obtain ⟨ii, zz, i1, i2, i3, i4, i5⟩ := ht.parts
    have hz : zz.cells = #[z0] := by
      have := i3
      apply Array.ext'
      simpa using this
    have hm : madeCells zz.cells (n.toNat * ii.size) = (List.replicate n.toNat z0).toArray := by
      rw [hz, i4, Nat.mul_one]
      exact range_map_const _ _ _ (fun i _ => by simp [Nat.mod_one])
    have hk := run_make (P := P) w t E ii zz ht.under i1 i2 .i64 .i64 n n h0 (Int.le_refl _) (by rw [i5, Int.mul_comm]; omega) (by omega)
    rw [hm] at hk
    simp [execOp, evE_ok ea hx, evE_ok ea hy, hk], ⟨_, rfl, rfl⟩, by
      have s1 := s.alloc (o := .cells (List.replicate n.toNat z0).toArray E)
      refine Sat.osl_mk (enc := enc) (sz := 1) (cap := n.toNat) (xs := List.replicate n.toNat e) (L := L ++ R) s1 ?_ (by simp) (by simp only [maxLen]; omega) (by simp) ?_
      · intro x hx
        rw [List.eq_of_mem_replicate hx, he]
        rfl
      · have : ∀ k, (List.replicate k e).flatMap enc = List.replicate k z0 := by
          intro k
          induction k with
          | zero => rfl
          | succ k ih => rw [List.replicate_succ, List.flatMap_cons, ih, he]; rfl
        rw [this]
        simp⟩)
theorem Ef.ent {op : Op} {L' : List HP} {post : Value → List HP → Prop} (h : Ent L L') (k : Ef P L' env op ty post) : Ef P L env op ty post := fun θ R a w o next Q ha s h1 h2 hn => k θ R a w o next Q ha (h θ R w s) h1 h2 hn
/-- A call whose contract speaks of one assertion, and of the others as they are. -/
theorem Ef.callAt {f : FuncId} {xs : Array Operand} {ats : Array TypeId} {vs : List Value} {post : Value → List HP → Prop} {A : HP} {R : List HP} [h : PickHP L A R]
    (c : Tri P f vs.toArray (A :: R) post) (hv : evArgs env xs.toList = some vs) : Ef P L env (.call { callee := .value (.func f), args := xs, argTypes := ats }) ty post := Ef.ent (Ent.perm h.perm) (Ef.callAll c hv)
end
end Go.V
