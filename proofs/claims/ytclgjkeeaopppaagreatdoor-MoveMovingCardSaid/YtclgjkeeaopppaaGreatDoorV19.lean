/- Parts of variables that have several cells; elements of several cells. Holds for any program whose type tables are as the classes say. -/
import Derived.Test.YtclgjkeeaopppaaGreatDoorV18
namespace Go.V
/-- Cells laid over others, from a place on. -/
def putK : Nat → List Value → List Value → (List Value → Option (List Value)) → Option (List Value)
  | 0, [], z, k => k z
  | 0, c :: cs, _ :: z, k => putK 0 cs z fun r => k (c :: r)
  | o + 1, cs, x :: z, k => putK o cs z fun r => k (x :: r)
  | _, _, [], _ => none
theorem putK_eq : ∀ (o : Nat) (cs z : List Value) (k : List Value → Option (List Value)) (r : List Value), putK o cs z k = some r → o + cs.length ≤ z.length ∧ k (z.take o ++ cs ++ z.drop (o + cs.length)) = some r
  | 0, [], z, k, r, h => by simpa [putK] using h
  | 0, c :: cs, [], k, r, h => by simp [putK] at h
  | 0, c :: cs, _ :: z, k, r, h => by
    simp only [putK] at h
    have := putK_eq 0 cs z _ r h
    simp at this ⊢
    exact this
  | o + 1, cs, [], k, r, h => by simp [putK] at h
  | o + 1, cs, x :: z, k, r, h => by
    simp only [putK] at h
    have := putK_eq o cs z _ r h
    rw [show o + 1 + cs.length = o + cs.length + 1 by omega]
    simp at this ⊢
    exact ⟨by omega, this.2⟩
/-- Some cells, from a place on. -/
def subK : Nat → Nat → List Value → (List Value → Option (List Value)) → Option (List Value)
  | 0, 0, _, k => k []
  | 0, n + 1, x :: z, k => subK 0 n z fun r => k (x :: r)
  | o + 1, n, _ :: z, k => subK o n z k
  | _, _, [], _ => none
theorem subK_eq : ∀ (o n : Nat) (z : List Value) (k : List Value → Option (List Value)) (r : List Value), subK o n z k = some r → o + n ≤ z.length ∧ k ((z.drop o).take n) = some r
  | 0, 0, z, k, r, h => by cases z <;> simpa [subK] using h
  | 0, n + 1, [], k, r, h => by simp [subK] at h
  | 0, n + 1, x :: z, k, r, h => by
    simp only [subK] at h
    have := subK_eq 0 n z _ r h
    simp at this ⊢
    exact this
  | o + 1, n, [], k, r, h => by cases n <;> simp [subK] at h
  | o + 1, n, x :: z, k, r, h => by
    have h' : subK o n z k = some r := by cases n <;> simpa only [subK] using h
    have := subK_eq o n z _ r h'
    rw [show o + 1 + n = o + n + 1 by omega]
    simp at this ⊢
    exact this
def vcells : Value → List Value
  | .agg cs => cs.toList
  | v => [v]
def isTup : Value → Bool
  | .tuple _ => true
  | _ => false
theorem vcells_eq (v : Value) (ht : isTup v = false) : v.cells = (vcells v).toArray := by
  cases v <;> simp [Value.cells, vcells, isTup] at ht ⊢
/-- The cells of a struct literal. -/
def bfoldG (pl : List (Nat × Nat)) : List (Nat × Value) → List Value → Option (List Value)
  | [], z => some z
  | (i, v) :: r, z => match pl[i]? with
    | none => none
    | some (off, sz) => if isTup v = false ∧ (vcells v).length = sz then putK off (vcells v) z fun z' => bfoldG pl r z' else none
theorem fill_put (off : Nat) (cs z : List Value) (h : off + cs.length ≤ z.length) : (cs.toArray.zipIdx.foldl (fun (a : Array Value) (p : Value × Nat) => a.setIfInBounds (off + p.2) p.1) z.toArray) = (z.take off ++ cs ++ z.drop (off + cs.length)).toArray := by
  have aux : ∀ (cs : List Value) (k : Nat) (z : List Value), off + k + cs.length ≤ z.length → (cs.zipIdx k).foldl (fun (a : Array Value) (p : Value × Nat) => a.setIfInBounds (off + p.2) p.1) z.toArray = (z.take (off + k) ++ cs ++ z.drop (off + k + cs.length)).toArray := by
    intro cs
    induction cs with
    | nil => intro k z _; simp
    | cons c cs ih =>
      intro k z hz
      simp only [List.length_cons] at hz
      simp only [List.zipIdx_cons, List.foldl_cons, List.setIfInBounds_toArray]
      rw [ih (k + 1) (z.set (off + k) c) (by simp; omega)]
      congr 1
      rw [show off + (k + 1) = off + k + 1 by omega, List.take_succ_eq_append_getElem (by simp; omega), List.getElem_set_self, List.take_set_of_le (by omega), List.drop_set_of_lt (by omega)]
      simp only [List.append_assoc, List.cons_append, List.nil_append, List.length_cons]
      rw [show off + k + 1 + cs.length = off + k + (cs.length + 1) by omega]
  have := aux cs 0 z (by omega)
  simpa using this
theorem fill_bfoldG (pl : List (Nat × Nat)) : ∀ (vs : List (Nat × Value)) (z cs : List Value), bfoldG pl vs z = some cs → Instr.fill (fun i => pl.toArray[i]?) z.toArray vs = some cs.toArray
  | [], z, cs, h => by simp [bfoldG] at h; simp [Instr.fill, h]
  | (i, v) :: r, z, cs, h => by
    simp only [bfoldG] at h
    cases h1 : pl[i]? with
    | none => rw [h1] at h; cases h
    | some p =>
      obtain ⟨off, sz⟩ := p
      rw [h1] at h
      simp only at h
      by_cases hc : isTup v = false ∧ (vcells v).length = sz
      · rw [if_pos hc] at h
        obtain ⟨h3, h4⟩ := putK_eq _ _ _ _ _ h
        have ih := fill_bfoldG pl r _ _ h4
        have hsz := hc.2
        simp only [Instr.fill, List.getElem?_toArray, h1, vcells_eq v hc.1, List.size_toArray]
        have hno : ¬ (decide ((vcells v).length ≠ sz) || decide (off + (vcells v).length > z.length)) = true := by simp [hsz]; omega
        rw [if_neg hno, fill_put off (vcells v) z h3]
        simp only [List.getElem?_toArray] at ih
        exact ih
      · rw [if_neg hc] at h; cases h
theorem flat_setAll {α : Type} {enc : α → List Value} {sz : Nat} (e : α) : ∀ {xs : List α} {j : Nat}, (∀ x ∈ xs, (enc x).length = sz) → j < xs.length → (xs.set j e).flatMap enc = (xs.flatMap enc).take (j * sz) ++ enc e ++ (xs.flatMap enc).drop (j * sz + sz)
  | [], j, _, h => by simp at h
  | x :: xs, 0, hs, _ => by
    have hx := hs x (List.mem_cons_self ..)
    simp only [List.set_cons_zero, List.flatMap_cons, Nat.zero_mul, List.take_zero, List.nil_append, Nat.zero_add]
    rw [← hx, List.drop_left]
  | x :: xs, j + 1, hs, h => by
    have hx := hs x (List.mem_cons_self ..)
    have ih := flat_setAll e (xs := xs) (j := j) (fun y hy => hs y (List.mem_cons_of_mem _ hy)) (by simpa using h)
    simp only [List.set_cons_succ, List.flatMap_cons, ih]
    rw [show (j + 1) * sz = (enc x).length + j * sz by rw [hx, Nat.succ_mul]; omega, List.take_length_add_append, Nat.add_assoc, List.drop_length_add_append]
    simp only [List.append_assoc]
section
variable {P : Program} {N : Nat} {env : Env} {L : List HP} {ty : TypeId} {v : Value}
theorem Ev.buildG {t : TypeId} {ps : Array (Nat × Operand)} {vs : List (Nat × Value)} {pl : List (Nat × Nat)} {z cs : List Value} [hs : TyStruct P t pl] [hz : ZeroT P t z] (hv : evPairs env ps.toList = some vs) (hc : bfoldG pl vs z = some cs) : Ev P L env (.build t ps) ty (.agg cs.toArray) :=
  Ev.mk (fun θ R ρ w ea s _ _ _ _ => by
    obtain ⟨z0, h1, h2⟩ := hz.run w
    have he := hs.eq
    cases hu : P.underlying t with
    | none => rw [hu] at he; cases he
    | some dsc =>
      rw [hu] at he
      cases dsc <;> simp [placesOf] at he
      rename_i fs
      have hm := mapM_places (P := P) (w := w) fs.toList pl (by simpa using he)
      have hargs : ps.map (fun p => (p.1, ρ p.2)) = vs.toArray := by
        apply Array.ext'
        simpa using ea.pairs ps.toList vs hv
      have hm' : (fs.mapM fun (f : Field) => do pure (f.offset, ← sizeOf f.type)).run P w = .ok pl.toArray w := by
        have e : fs = fs.toList.toArray := by simp
        rw [e, List.mapM_toArray]
        simp only [Sem.run_map, hm, Result.andThen_ok]
      have hf := fill_bfoldG pl vs z cs hc
      simp only [execOp, hargs, Instr.build, Sem.run_bind, h1, Result.andThen_ok, run_underlying hu, hm', h2]
      simp only [hf]
      simp)
/-- A part of a variable, of several cells. -/
theorem Ev.loadObjSub {t : TypeId} {x : Operand} {b o T n : Nat} {cs vs : List Value} {Rest : List HP} [ht : TyAgg P t n] [hp : PickObj L b T cs Rest] (hx : evE env x = some (.pointer (some ⟨b, o, none⟩))) (hs : subK o n cs some = some vs) : Ev P L env (.load t x) ty (.agg vs.toArray) :=
  Ev.mk (fun θ R _ w ea s _ _ _ _ => by
    obtain ⟨h1, h2⟩ := subK_eq _ _ _ _ _ hs
    simp only [Option.some.injEq] at h2
    subst h2
    have hb := s.obj_heap hp.perm
    have hl := run_loadCells_list (P := P) w ⟨b, o, none⟩ ((cs.drop o).take n) (fun j v hv => by
      have hj : j < n := by have := (List.getElem?_eq_some_iff.1 hv).1; simp at this; omega
      rw [Addr_add_lit', cell_of_block hb]
      simp [hj] at hv ⊢
      exact hv)
    have hlen : ((cs.drop o).take n).length = n := by simp; omega
    rw [hlen] at hl
    simp [execOp, evE_ok ea hx, Instr.loadAt, Instr.sureAddr, loadVar, ht.run, TyAgg.sizeOf_run, hl])
theorem Ef.storeObjSub {t : TypeId} {x y : Operand} {b o T n : Nat} {cs vs cs' : List Value} {Rest : List HP} [ht : TyAgg P t n] [hp : PickObj L b T cs Rest] (hx : evE env x = some (.pointer (some ⟨b, o, none⟩))) (hy : evE env y = some (.agg vs.toArray)) (hn : vs.length = n) (hs : putK o vs cs some = some cs') (h1 : ∀ v ∈ vs, v.oneCell' = true)
    : Ef P L env (.store t x y) ty (fun _ L' => L' = obj b T cs' :: Rest) :=
  Ef.skip (fun θ R a w ea s dst pos af g => by
    obtain ⟨h2, h3⟩ := putK_eq _ _ _ _ _ hs
    simp only [Option.some.injEq] at h3
    subst h3
    have s1 := s.perm (hp.perm.append_right R)
    have hb : w.heap[b]? = some (.cells cs.toArray T (0, 0)) := s1.own_heap
    have hst := run_storeCells_at P b o T vs 0 cs.toArray w hb (by simp; omega) h1
    refine ⟨w.setRow b (cs.take o ++ vs ++ cs.drop (o + vs.length)).toArray, _, ?_, rfl, ?_⟩
    · simp [execOp, evE_ok ea hx, evE_ok ea hy, Instr.storeAt, Instr.sureAddr, storeVar, TyAgg.sizeOf_run, Value.cells, hn] at hst ⊢
      rw [hst]
      simp
    · exact Sat.update s1 ⟨s.1.tape, s.1.os, s.1.output⟩ (setRow_heap w b _ _ T _ hb) (fun j x hj hx => by rw [setRow_other w b j _ hj]; exact hx))
/-- A cell of what is read as a list, by its own address. -/
theorem Ev.loadRaw {t : TypeId} {x : Operand} {b m sz j o : Nat} {α : Type} [Inhabited α] {enc : α → List Value} {xs : List α} [ht : TyOne P t] [hr : Rds L (some ⟨b, 0, none⟩) α enc sz xs]
    (hx : evE env x = some (.pointer (some ⟨b, m, none⟩))) (hm : m = j * sz + o) (hj : j < xs.length) (ho : o < sz) (hv : (enc xs[j]!)[o]? = some v) : Ev P L env (.load t x) ty v := by
  refine Ev.loadEl (ad := some ⟨b, 0, none⟩) (sz := sz) (j := j) (o := o) ?_ hj ho hv
  rw [hx, hm]
  simp only [elP, Option.map_some, Addr_add_lit]
/-- A store of a whole element. -/
theorem Ef.storeElAgg {t : TypeId} {x y : Operand} {ad : Option Addr} {sz j E cap : Nat} {α : Type} [Inhabited α] {enc : α → List Value} {xs : List α} {Rest : List HP} {vs : List Value} (e : α) [ht : TyAgg P t sz] [hp : PickOsl L ad α enc sz E cap xs Rest]
    (hx : evE env x = some (.pointer (elP ad sz j 0))) (hy : evE env y = some (.agg vs.toArray)) (he : enc e = vs) (hn : vs.length = sz) (h1 : ∀ v ∈ vs, v.oneCell' = true) (hj : j < xs.length) :
    Ef P L env (.store t x y) ty (fun _ L' => L' = osl enc sz E ad cap (xs.set j e) :: Rest) :=
  Ef.skip (fun θ R ρ w ea s dst pos af g => by
    have s1 := s.perm (hp.perm.append_right R)
    obtain ⟨p1, p2, p3, p4⟩ := Sat.osl_parts s1
    rcases p4 with ⟨rfl, rfl⟩ | ⟨gb, cur, rfl, f1, f2, f3⟩
    · omega
    · have hb : w.heap[gb]? = some (.cells cur E (0, 0)) := f3.own_heap
      have hlen : (j + 1) * sz ≤ xs.length * sz := Nat.mul_le_mul_right _ hj
      rw [Nat.succ_mul] at hlen
      have hcap := Nat.mul_le_mul_right sz p2
      have hst := run_storeCells_at P gb (j * sz) E vs 0 cur w hb (by omega) h1
      have hel : ∀ y ∈ xs.set j e, (enc y).length = sz := by
        intro y hy'
        rcases List.mem_or_eq_of_mem_set hy' with h | h
        · exact p1 y h
        · subst h; rw [he]; exact hn
      have hx' : evE env x = some (.pointer (some ⟨gb, j * sz, none⟩)) := by rw [hx]; simp only [elP, Option.map_some, Addr_add_lit, Nat.add_zero]
      refine ⟨w.setRow gb (cur.toList.take (j * sz) ++ vs ++ cur.toList.drop (j * sz + sz)).toArray, _, ?_, rfl, ?_⟩
      · simp [execOp, evE_ok ea hx', evE_ok ea hy, Instr.storeAt, Instr.sureAddr, storeVar, TyAgg.sizeOf_run, Value.cells, hn] at hst ⊢
        rw [hst]
        simp
      · have s3 : Sat θ (own gb (.cells (cur.toList.take (j * sz) ++ vs ++ cur.toList.drop (j * sz + sz)).toArray E (0, 0)) :: (Rest ++ R)) (w.setRow gb (cur.toList.take (j * sz) ++ vs ++ cur.toList.drop (j * sz + sz)).toArray) :=
          Sat.update f3 ⟨s.1.tape, s.1.os, s.1.output⟩ (setRow_heap w gb _ _ E _ hb) (fun k x hk hx => by rw [setRow_other w gb k _ hk]; exact hx)
        refine Sat.osl_mk (L := Rest ++ R) s3 hel (by simpa using p2) p3 ?_ ?_
        · simp [hn]; omega
        · have hl2 : (cur.toList.take (j * sz)).length = j * sz := by simp; omega
          rw [flat_setAll e p1 hj, ← f2, he, List.length_set, List.take_take, Nat.min_eq_left (by omega), List.drop_take]
          simp only
          have hAv : (cur.toList.take (j * sz) ++ vs).length = j * sz + sz := by rw [List.length_append, hl2, hn]
          rw [List.take_append, hAv, List.take_of_length_le (l := cur.toList.take (j * sz) ++ vs) (by omega)])
theorem flat_replicate {α : Type} {enc : α → List Value} {z : Array Value} {e : α} (he : enc e = z.toList) (hz : 0 < z.size) (n : Nat) : ((List.replicate n e).flatMap enc).toArray = madeCells z (n * z.size) := by
  apply Array.ext
  · simp [madeCells, flat_length (enc := enc) (sz := z.size) (xs := List.replicate n e) (fun x hx => by rw [List.eq_of_mem_replicate hx, he]; simp)]
  · intro i h1 h2
    simp only [madeCells, Array.getElem_map, Array.getElem_range]
    have hlen : ((List.replicate n e).flatMap enc).length = n * z.size := by
      have := flat_length (enc := enc) (sz := z.size) (xs := List.replicate n e) (fun x hx => by rw [List.eq_of_mem_replicate hx, he]; simp)
      simpa using this
    have hi : i < n * z.size := by simpa [hlen] using h1
    have hq : i / z.size < n := (Nat.div_lt_iff_lt_mul hz).2 hi
    have hr := Nat.mod_lt i hz
    have hd := Nat.div_add_mod i z.size
    haveI : Inhabited α := ⟨e⟩
    have := flat_get (enc := enc) (sz := z.size) (xs := List.replicate n e) (fun x hx => by rw [List.eq_of_mem_replicate hx, he]; simp) (j := i / z.size) (o := i % z.size) (by simpa using hq) hr
    rw [show i / z.size * z.size + i % z.size = i by rw [Nat.mul_comm]; exact hd] at this
    rw [List.getElem!_eq_getElem?_getD, List.getElem?_replicate, if_pos hq] at this
    simp only [Option.getD_some, he] at this
    rw [List.getElem?_eq_getElem (by omega)] at this
    simp only [Array.getElem?_toList, Array.getElem?_eq_getElem hr, Option.some.injEq] at this
    simp only [List.getElem_toArray, this]
    rw [getElem!_pos z (i % z.size) hr]
/-- make([]T, n, c), T of several cells. -/
theorem Ef.makeSliceG {t : TypeId} {x y : Operand} {E sz bb : Nat} {z : List Value} {α : Type} (enc : α → List Value) (e : α) {n c : Int} [ht : TySl P t E sz bb z] (hx : evE env x = some (.int .i64 n)) (hy : evE env y = some (.int .i64 c)) (he : enc e = z) (h0 : 0 ≤ n) (hc : n ≤ c) (h1 : c * bb ≤ 16777216) (h2 : c ≤ 1000000000) :
    Ef P L env (.makeSlice t x y) ty (fun v L' => ∃ b, v = .slice (some ⟨b, 0, none⟩) n.toNat c.toNat ∧ L' = osl enc sz E (some ⟨b, 0, none⟩) c.toNat (List.replicate n.toNat e) :: L) :=
  Ef.val (fun θ R a w ea s dst pos af g => by
    obtain ⟨ii, zz, i1, i2, i3, i4, i5⟩ := ht.parts
    have hzl : zz.cells.size = sz := by rw [← Array.length_toList, i3]; exact ht.zlen
    have hpos := ht.pos
    have hk := run_make (P := P) w t E ii zz ht.under i1 i2 .i64 .i64 n c h0 hc (by rw [i5, Int.mul_comm]; omega) (by omega)
    rw [i4, ← hzl, ← flat_replicate (enc := enc) (e := e) (by rw [he, i3]) (by omega)] at hk
    refine ⟨.slice (some ⟨w.heap.size, 0, none⟩) n.toNat c.toNat, w.alloc (.cells ((List.replicate c.toNat e).flatMap enc).toArray E), _, by simp [execOp, evE_ok ea hx, evE_ok ea hy, hk], ⟨_, rfl, rfl⟩, ?_⟩
    have s1 := s.alloc (o := .cells ((List.replicate c.toNat e).flatMap enc).toArray E)
    have hel : ∀ (k : Nat), ∀ x ∈ List.replicate k e, (enc x).length = sz := fun k x hx => by rw [List.eq_of_mem_replicate hx, he]; exact ht.zlen
    refine Sat.osl_mk (enc := enc) (sz := sz) (cap := c.toNat) (xs := List.replicate n.toNat e) (L := L ++ R) s1 (hel _) (by simp; omega) (by simp only [maxLen]; omega) ?_ ?_
    · simp only [List.size_toArray]
      rw [flat_length (hel _), List.length_replicate]
    · have e1 : List.replicate c.toNat e = List.replicate n.toNat e ++ List.replicate (c.toNat - n.toNat) e := by
        rw [List.replicate_append_replicate]; congr 1; omega
      rw [e1, List.flatMap_append]
      simp only
      rw [List.take_append_of_le_length (by rw [flat_length (hel _)]; exact Nat.le_refl _), List.take_of_length_le (by rw [flat_length (hel _)]; exact Nat.le_refl _)])
end
end Go.V
