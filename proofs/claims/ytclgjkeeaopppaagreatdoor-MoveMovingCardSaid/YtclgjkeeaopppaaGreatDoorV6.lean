/- Strings, bytes, booleans, new slices of zeros. -/
import Derived.Test.YtclgjkeeaopppaaGreatDoorV5
import Derived.Laws.BytesArg
import Derived.Laws.Strings
import Derived.Laws.MakeOwn
namespace Go.V
class TyBool (P : Program) (T : Nat) : Prop where
  under : P.underlying T = some .bool
section
variable {P : Program} {env : Env} {L : List HP} {ty : TypeId}

theorem run_eqIn_bool {t : TypeId} {a b : Bool} {w : World} {n : Nat} (he : P.underlying t = some .bool) : (Op.equalIn (n + 1) t (.bool a) (.bool b)).run P w = .ok (a == b) w := by
  simp [Op.equalIn, run_underlying he]
theorem Ev.neqB {t yt : TypeId} {x y : Operand} {φ ψ : Prop} [Decidable φ] [Decidable ψ] [ht : TyBool P t] (hx : evE env x = some (.bool (dB φ))) (hy : evE env y = some (.bool (dB ψ))) : Ev P L env (.binOp .neq t x y yt) ty (.bool (dB (¬ (φ ↔ ψ)))) :=
  Ev.mk (fun _ _ _ w ea _ _ _ _ _ => by
    have h1 := run_eq_of (P := P) (w := w) (fun n => run_eqIn_bool (n := n) (a := dB φ) (b := dB ψ) ht.under)
    have h2 : (!(dB φ == dB ψ)) = dB (¬ (φ ↔ ψ)) := by
      rw [dB_eq, dB_eq, dB_eq]
      by_cases h : φ <;> by_cases h' : ψ <;> simp [h, h']
    simp [execOp, evE_ok ea hx, evE_ok ea hy, eqGuard, binOp, h1, h2])
theorem Ev.eqlB {t yt : TypeId} {x y : Operand} {φ ψ : Prop} [Decidable φ] [Decidable ψ] [ht : TyBool P t] (hx : evE env x = some (.bool (dB φ))) (hy : evE env y = some (.bool (dB ψ))) : Ev P L env (.binOp .eql t x y yt) ty (.bool (dB (φ ↔ ψ))) :=
  Ev.mk (fun _ _ _ w ea _ _ _ _ _ => by
    have h1 := run_eq_of (P := P) (w := w) (fun n => run_eqIn_bool (n := n) (a := dB φ) (b := dB ψ) ht.under)
    have h2 : (dB φ == dB ψ) = dB (φ ↔ ψ) := by
      rw [dB_eq, dB_eq, dB_eq]
      by_cases h : φ <;> by_cases h' : ψ <;> simp [h, h']
    simp [execOp, evE_ok ea hx, evE_ok ea hy, eqGuard, binOp, h1, h2])
theorem beq_ba (a b : ByteArray) : (a.toList == b.toList) = decide (a = b) := by
  rw [ByteArray.toList_eq, ByteArray.toList_eq]
  cases a with | mk a => cases b with | mk b =>
  by_cases h : a = b
  · subst h; simp
  · simp [h]
theorem Ev.eqlStr {t yt : TypeId} {x y : Operand} {a b : ByteArray} (hx : evE env x = some (.string a)) (hy : evE env y = some (.string b)) : Ev P L env (.binOp .eql t x y yt) ty (.bool (dB (a = b))) :=
  Ev.mk (fun _ _ _ w ea _ _ _ _ _ => by
    simp [execOp, evE_ok ea hx, evE_ok ea hy, eqGuard, binOp, Op.stringOp, dB_eq, beq_ba])
theorem Ev.neqStr {t yt : TypeId} {x y : Operand} {a b : ByteArray} (hx : evE env x = some (.string a)) (hy : evE env y = some (.string b)) : Ev P L env (.binOp .neq t x y yt) ty (.bool (dB (¬ a = b))) :=
  Ev.mk (fun _ _ _ w ea _ _ _ _ _ => by
    simp [execOp, evE_ok ea hx, evE_ok ea hy, eqGuard, binOp, Op.stringOp, dB_eq, beq_ba])
theorem encI_flat (xs : List Int) (k : IntKind) : xs.flatMap (encI k) = xs.map (Value.int k) := flat_single _ xs
/-- string(bytes) -/
theorem Ev.convStr {s t : TypeId} {x : Operand} {ad : Option Addr} {n c E sz bb : Nat} {z : List Value} {xs : List Int} [hs : TySl P s E sz bb z] [he : TyInt P E .u8] [ht : TyStr P t] [hr : Rds L ad Int (encI .u8) 1 xs] (hx : evE env x = some (.slice ad n c)) (hn : n = xs.length) :
    Ev P L env (.convert s t x) ty (.string (strOfNums xs)) :=
  Ev.mk (fun θ R _ w ea st _ _ _ _ => by
    subst hn
    obtain ⟨h1, h2⟩ := hr.rd θ R w st
    have hc : (convert s t (.slice ad xs.length c)).run P w = .ok (.string (strOfNums xs)) w := by
      rw [run_convert_bytes_string w s t E ad xs.length c hs.under he.under ht.under]
      rcases h2 with rfl | ⟨a, rfl, h3⟩
      · cases ad with
        | none => simp [Conv.bytesToString, strOfNums]; rfl
        | some a =>
          have hl : (loadCells a 0).run P w = .ok (([] : List Int).map (Value.int .u8)).toArray w := by simp [loadCells, loadCellsFrom]
          exact (run_bytesToString w a 0 c [] hl).trans (by simp [strOfNums]; rfl)
      · rw [encI_flat] at h3
        have hl := run_loadCells_list (P := P) w a (xs.map (Value.int .u8)) h3
        rw [List.length_map] at hl
        rw [run_bytesToString w a xs.length c xs hl, foldl_push_bytes]
        simp [strOfNums, ByteArray.empty, ByteArray.emptyWithCapacity]
        rfl
    simp [execOp, evE_ok ea hx, hc])
/-- []byte("..") : the literal's slice becomes immutable. -/
theorem Ef.convBytes {t : TypeId} {x : Operand} {b n c E T sz bb : Nat} {z : List Value} (xs : List Int) {cs : List Value} {Rest : List HP} [ht : TySl P t E sz bb z] [he : TyInt P E .u8] [hp : PickObj L b T cs Rest] (hx : evE env x = some (.slice (some ⟨b, 0, none⟩) n c)) (hc : cs = xs.flatMap (encI .u8)) :
    Ef P L env (.convert t t x) ty (fun v L' => v = .slice (some ⟨b, 0, none⟩) n c ∧ L' = isl (encI .u8) 1 (some ⟨b, 0, none⟩) xs :: Rest) :=
  Ef.val (fun θ R ρ w ea s dst pos af g => by
    subst hc
    have s1 : Sat θ (own b (.cells (xs.flatMap (encI .u8)).toArray T (0, 0)) :: (Rest ++ R)) w := s.perm (hp.perm.append_right R)
    have hb := s1.own_heap
    have hsh : w.shape? b = some (T, (xs.flatMap (encI .u8)).length) := by simp [World.shape?, hb]
    refine ⟨_, w.freeze ⟨b, (xs.flatMap (encI .u8)).length, none⟩ 1, _, by simp [execOp, evE_ok ea hx, convert, run_underlying ht.under, run_underlying he.under, markStringish, hsh], ⟨rfl, rfl⟩, ?_⟩
    have hlt : b < w.heap.size := by
      rcases Nat.lt_or_ge b w.heap.size with h | h
      · exact h
      · rw [Array.getElem?_eq_none h] at hb; cases hb
    have s2 : Sat θ (own b (.cells (xs.flatMap (encI .u8)).toArray T ((xs.flatMap (encI .u8)).length, (xs.flatMap (encI .u8)).length + 1)) :: (Rest ++ R)) (w.freeze ⟨b, (xs.flatMap (encI .u8)).length, none⟩ 1) := by
      refine s1.update ⟨s.1.tape, s.1.os, s.1.output⟩ ?_ ?_
      · simp only [World.freeze, if_neg (show ¬ (1 = 0) by decide), Array.getElem?_modify, if_true, hb, Option.map_some]
        simp
      · intro k o hk h
        simp only [World.freeze, if_neg (show ¬ (1 = 0) by decide), Array.getElem?_modify]
        rw [if_neg (fun e => hk e.symm)]
        exact h
    obtain ⟨ok, ι, h, a, b1, c1, ι₀, h₁, h₂, d1, d2, d3, d4, d5, d6⟩ := s2.freeze
    refine ⟨ok, ι, h, a, b1, c1, ι₀, h₁, h₂, d1, d2, d3, d4, ⟨fun _ _ => rfl, .inr ⟨b, 0, _, _, _, rfl, d5, ?_⟩⟩, d6⟩
    intro i v hv
    simpa using hv)
theorem range_map_const {α : Type} [Inhabited α] (f : Nat → α) (x : α) (n : Nat) (h : ∀ i, i < n → f i = x) : (Array.range n).map f = (List.replicate n x).toArray := by
  apply Array.ext
  · simp
  · intro i h1 h2
    simp at h1 ⊢
    exact h i h1
/-- make([]T, n), T of one cell. -/
theorem Ef.makeSlice {t : TypeId} {x y : Operand} {E bb : Nat} {z0 : Value} {α : Type} (enc : α → List Value) (e : α) {n : Int} [ht : TySl P t E 1 bb [z0]] (hx : evE env x = some (.int .i64 n)) (hy : evE env y = some (.int .i64 n)) (he : enc e = [z0]) (h0 : 0 ≤ n) (h1 : n * bb ≤ 16777216) (h2 : n ≤ 1000000000) :
    Ef P L env (.makeSlice t x y) ty (fun v L' => ∃ b, v = .slice (some ⟨b, 0, none⟩) n.toNat n.toNat ∧ L' = osl enc 1 E (some ⟨b, 0, none⟩) n.toNat (List.replicate n.toNat e) :: L) :=
  Ef.val (fun θ R a w ea s dst pos af g => ⟨.slice (some ⟨w.heap.size, 0, none⟩) n.toNat n.toNat, w.alloc (.cells (List.replicate n.toNat z0).toArray E), _, by
    obtain ⟨ii, zz, i1, i2, i3, i4, i5⟩ := ht.parts
    have hz : zz.cells = #[z0] := by
      have := i3
      apply Array.ext'
      simpa using this
    have hm : madeCells zz.cells (n.toNat * ii.size) = (List.replicate n.toNat z0).toArray := by
      rw [hz, i4, Nat.mul_one]
      exact range_map_const _ _ _ (fun i _ => by simp [Nat.mod_one])
    have hk := run_make (P := P) w t E ii zz ht.under i1 i2 .i64 .i64 n n h0 (Int.le_refl _) (by rw [i5, Int.mul_comm]; omega) (by omega)
    rw [hm] at hk
    simp [execOp, evE_ok ea hx, evE_ok ea hy, hk], ⟨_, rfl, rfl⟩, by
      have s1 := s.alloc (o := .cells (List.replicate n.toNat z0).toArray E)
      refine Sat.osl_mk (enc := enc) (sz := 1) (cap := n.toNat) (xs := List.replicate n.toNat e) (L := L ++ R) s1 ?_ (by simp) (by simp only [maxLen]; omega) (by simp) ?_
      · intro x hx
        rw [List.eq_of_mem_replicate hx, he]
        rfl
      · have : ∀ k, (List.replicate k e).flatMap enc = List.replicate k z0 := by
          intro k
          induction k with
          | zero => rfl
          | succ k ih => rw [List.replicate_succ, List.flatMap_cons, ih, he]; rfl
        rw [this]
        simp⟩)
theorem Ef.ent {op : Op} {L' : List HP} {post : Value → List HP → Prop} (h : Ent L L') (k : Ef P L' env op ty post) : Ef P L env op ty post := fun θ R a w o next Q ha s h1 h2 hn => k θ R a w o next Q ha (h θ R w s) h1 h2 hn
/-- A call whose contract speaks of one assertion, and of the others as they are. -/
theorem Ef.callAt {f : FuncId} {xs : Array Operand} {ats : Array TypeId} {vs : List Value} {post : Value → List HP → Prop} {A : HP} {R : List HP} [h : PickHP L A R]
    (c : Tri P f vs.toArray (A :: R) post) (hv : evArgs env xs.toList = some vs) : Ef P L env (.call { callee := .value (.func f), args := xs, argTypes := ats }) ty post := Ef.ent (Ent.perm h.perm) (Ef.callAll c hv)
theorem flat_set {α : Type} [Inhabited α] {enc : α → List Value} {sz o : Nat} {e : α} {v : Value} : ∀ {xs : List α} {j : Nat}, (∀ x ∈ xs, (enc x).length = sz) → j < xs.length → o < sz → enc e = (enc xs[j]!).set o v → (xs.set j e).flatMap enc = (xs.flatMap enc).set (j * sz + o) v
  | [], j, _, hj, _, _ => by simp at hj
  | x :: xs, 0, h, _, ho, he => by
    have hx := h x (by simp)
    simp only [List.set_cons_zero, List.flatMap_cons, Nat.zero_mul, Nat.zero_add]
    rw [List.set_append, if_pos (by omega), he]
    simp
  | x :: xs, j + 1, h, hj, ho, he => by
    have hx := h x (by simp)
    simp only [List.set_cons_succ, List.flatMap_cons]
    have e1 : ¬ ((j + 1) * sz + o < (enc x).length) := by rw [hx, Nat.succ_mul]; omega
    rw [List.set_append, if_neg e1]
    have e2 : (j + 1) * sz + o - (enc x).length = j * sz + o := by rw [hx, Nat.succ_mul]; omega
    rw [e2, flat_set (fun y hy => h y (by simp [hy])) (by simpa using hj) ho (by simpa using he)]
/-- A store into an element of an owned slice. -/
theorem Ef.storeEl {t : TypeId} {x y : Operand} {ad : Option Addr} {sz j o E cap : Nat} {α : Type} [Inhabited α] {enc : α → List Value} {xs : List α} {Rest : List HP} {v : Value} (e : α) [ht : TyOne P t] [hp : PickOsl L ad α enc sz E cap xs Rest]
    (hx : evE env x = some (.pointer (elP ad sz j o))) (hy : evE env y = some v) (he : enc e = (enc xs[j]!).set o v) (h1 : v.oneCell' = true) (hj : j < xs.length) (ho : o < sz) :
    Ef P L env (.store t x y) ty (fun _ L' => L' = osl enc sz E ad cap (xs.set j e) :: Rest) :=
  Ef.skip (fun θ R ρ w ea s dst pos af g => by
    have s1 := s.perm (hp.perm.append_right R)
    obtain ⟨p1, p2, p3, p4⟩ := Sat.osl_parts s1
    rcases p4 with ⟨rfl, rfl⟩ | ⟨gb, cur, rfl, f1, f2, f3⟩
    · omega
    · have hb : w.heap[gb]? = some (.cells cur E (0, 0)) := f3.own_heap
      have hlen : j * sz + o < xs.length * sz := by
        have : (j + 1) * sz ≤ xs.length * sz := Nat.mul_le_mul_right _ hj
        rw [Nat.succ_mul] at this
        omega
      have hlt : j * sz + o < cur.size := by
        have := Nat.mul_le_mul_right sz p2
        omega
      have hel : ∀ y ∈ xs.set j e, (enc y).length = sz := by
        intro y hy'
        rcases List.mem_or_eq_of_mem_set hy' with h | h
        · exact p1 y h
        · subst h
          rw [he, List.length_set]
          exact p1 _ (by rw [List.getElem!_eq_getElem?_getD, List.getElem?_eq_getElem hj]; exact List.getElem_mem _)
      have hcell : w.cell? ⟨gb, j * sz + o, none⟩ = some cur[j * sz + o] := by rw [cell_of_block hb]; simp [hlt]
      have hfz : w.frozen? ⟨gb, j * sz + o, none⟩ = false := by simp [World.frozen?, hb]
      have hc1 : v.cells = #[v] := by cases v <;> first | rfl | cases h1
      refine ⟨w.setCell ⟨gb, j * sz + o, none⟩ v, _, ?_, rfl, ?_⟩
      · have hx' : evE env x = some (.pointer (some ⟨gb, j * sz + o, none⟩)) := by rw [hx]; simp only [elP, Option.map_some, Addr_add_lit]
        simp [execOp, evE_ok ea hx', evE_ok ea hy, Instr.storeAt, Instr.sureAddr, storeVar, TyOne.sizeOf_run, hc1, storeCells, Addr.add, run_store _ _ _ _ _ h1, hcell, hfz]
      · have s3 : Sat θ (own gb (.cells (cur.setIfInBounds (j * sz + o) v) E (0, 0)) :: (Rest ++ R)) (w.setCell ⟨gb, j * sz + o, none⟩ v) := by
          refine Sat.update f3 ⟨s.1.tape, s.1.os, s.1.output⟩ ?_ (fun k x hk hx => by rw [setCell_heap_other v hk]; exact hx)
          rw [setCell_heap_same v hb]
        refine Sat.osl_mk (L := Rest ++ R) s3 hel (by simpa using p2) p3 (by simpa using f1) ?_
        rw [flat_set p1 hj ho he, ← f2]
        simp [List.take_set])
theorem Ef.storeElI {t : TypeId} {x y : Operand} {ad : Option Addr} {j E cap : Nat} {k : IntKind} {n : Int} {xs : List Int} {Rest : List HP} [ht : TyOne P t] [hp : PickOsl L ad Int (encI k) 1 E cap xs Rest]
    (hx : evE env x = some (.pointer (elP ad 1 j 0))) (hy : evE env y = some (.int k n)) (hj : j < xs.length) :
    Ef P L env (.store t x y) ty (fun _ L' => L' = osl (encI k) 1 E ad cap (xs.set j n) :: Rest) := Ef.storeEl n hx hy rfl rfl hj (by omega)
theorem Ev.convI64 {s t : TypeId} {x : Operand} {k : IntKind} {a : Int} [hs : TyInt P s k] [ht : TyInt P t .i64] (hx : evE env x = some (.int k a)) (h0 : -9223372036854775808 ≤ a) (h1 : a ≤ 9223372036854775807) : Ev P L env (.convert s t x) ty (.int .i64 a) := by
  have := Ev.conv (P := P) (L := L) (ty := ty) (s := s) (t := t) hx
  rwa [IntWalk.i64_in a ⟨h0, h1⟩] at this
theorem Ev.convU8 {s t : TypeId} {x : Operand} {k : IntKind} {a : Int} [hs : TyInt P s k] [ht : TyInt P t .u8] (hx : evE env x = some (.int k a)) (h0 : 0 ≤ a) (h1 : a ≤ 255) : Ev P L env (.convert s t x) ty (.int .u8 a) := by
  have := Ev.conv (P := P) (L := L) (ty := ty) (s := s) (t := t) hx
  rwa [IntWalk.u8_in a ⟨h0, h1⟩] at this
theorem Ev.convU64 {s t : TypeId} {x : Operand} {k : IntKind} {a : Int} [hs : TyInt P s k] [ht : TyInt P t .u64] (hx : evE env x = some (.int k a)) (h0 : 0 ≤ a) (h1 : a ≤ 18446744073709551615) : Ev P L env (.convert s t x) ty (.int .u64 a) := by
  have := Ev.conv (P := P) (L := L) (ty := ty) (s := s) (t := t) hx
  rwa [IntWalk.u64_in a ⟨h0, h1⟩] at this
/-- Pointers to whole variables, as elements. -/
def encP (b : Nat) : List Value := [.pointer (some ⟨b, 0, none⟩)]
end
end Go.V
