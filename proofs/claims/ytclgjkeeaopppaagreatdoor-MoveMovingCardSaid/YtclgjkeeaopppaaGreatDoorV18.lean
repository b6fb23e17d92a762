/- Arrays and strings. Holds for any program whose type tables are as the classes say. -/
import Derived.Test.YtclgjkeeaopppaaGreatDoorV17
import Derived.Test.YtclgjkeeaopppaaGreatDoorV12
import Derived.Laws.Strings2
namespace Go.V
class TyArr (P : Program) (T : Nat) (n E sz : outParam Nat) : Prop where
  under : P.underlying T = some (.array n E)
  size : (P.info? E).map (·.size) = some sz
theorem TyArr.sizeOf_run {P : Program} {T n E sz : Nat} (h : TyArr P T n E sz) (w : World) : (sizeOf E).run P w = .ok sz w := by
  have h1 := h.size
  cases hi : P.info? E with
  | none => rw [hi] at h1; cases h1
  | some i => rw [hi] at h1; simp at h1; simp [sizeOf, typeInfo, hi, h1]
theorem add_add (a : Addr) (i j : Nat) : (a.add i).add j = a.add (i + j) := by
  unfold Addr.add
  by_cases hi : i = 0
  · subst hi; simp
  · by_cases hj : j = 0
    · subst hj; simp [hi]
    · have : i + j ≠ 0 := by omega
      simp [hi, hj, Nat.add_assoc]
section
variable {P : Program} {N : Nat} {env : Env} {L : List HP} {ty : TypeId} {v : Value}
theorem Ev.atStrIdx {t : TypeId} {x i : Operand} (h : Ev P L env (.index t x i) ty v) : Ev P L env (.index t x i) ty v := h
/-- Into an array that is read as a list. -/
theorem Ev.idxArr {t : TypeId} {x i : Operand} {a : Addr} {n E sz : Nat} {j : Int} {k : IntKind} [ht : TyArr P t n E sz] (hx : evE env x = some (.pointer (some a))) (hi : evE env i = some (.int k j)) (h0 : 0 ≤ j) (h1 : j < n) :
    Ev P L env (.indexAddr t x i) ty (.pointer (elP (some a) sz j.toNat 0)) :=
  Ev.mk (fun θ R _ w ea s _ _ _ _ => by
    simp [execOp, evE_ok ea hx, evE_ok ea hi, Instr.indexAt, asIntOf, run_underlying ht.under, h0, h1, ht.sizeOf_run, elP, Instr.sureAddr])
/-- Into an array that is a variable of its own. -/
theorem Ev.idxArrObj {t : TypeId} {x i : Operand} {b o n E sz : Nat} {j : Int} {k : IntKind} [ht : TyArr P t n E sz] (hx : evE env x = some (.pointer (some ⟨b, o, none⟩))) (hi : evE env i = some (.int k j)) (h0 : 0 ≤ j) (h1 : j < n) :
    Ev P L env (.indexAddr t x i) ty (.pointer (some ⟨b, o + j.toNat * sz, none⟩)) :=
  Ev.mk (fun θ R _ w ea s _ _ _ _ => by
    simp [execOp, evE_ok ea hx, evE_ok ea hi, Instr.indexAt, asIntOf, run_underlying ht.under, h0, h1, ht.sizeOf_run, Addr_add_lit', Instr.sureAddr])
/-- Into an array that is an element of a slice. -/
theorem Ev.idxArrEl {t : TypeId} {x i : Operand} {ad : Option Addr} {s' m o n E sz : Nat} {j : Int} {k : IntKind} {α : Type} {enc : α → List Value} {xs : List α} [ht : TyArr P t n E sz] [hr : Rds L ad α enc s' xs] (hx : evE env x = some (.pointer (elP ad s' m o))) (hi : evE env i = some (.int k j)) (hm : m < xs.length) (h0 : 0 ≤ j) (h1 : j < n) :
    Ev P L env (.indexAddr t x i) ty (.pointer (elP ad s' m (o + j.toNat * sz))) :=
  Ev.mk (fun θ R _ w ea s _ _ _ _ => by
    obtain ⟨_, h2⟩ := hr.rd θ R w s
    rcases h2 with h2 | ⟨a, rfl, _⟩
    · subst h2; simp at hm
    · simp [execOp, evE_ok ea hx, evE_ok ea hi, Instr.indexAt, asIntOf, run_underlying ht.under, h0, h1, ht.sizeOf_run, elP, Instr.sureAddr, add_add, Nat.add_assoc])
theorem numsOf_get {s : ByteArray} {i : Nat} (h : i < s.size) : s[i]? = some (s.data[i]'(by simpa using h)) := by
  simp [h]
  rfl
/-- A byte of a string. -/
theorem Ev.idxStr {t : TypeId} {x i : Operand} {s : ByteArray} {j : Int} {k : IntKind} [ht : TyStr P t] (hx : evE env x = some (.string s)) (hi : evE env i = some (.int k j)) (h0 : 0 ≤ j) (h1 : j < s.size) :
    Ev P L env (.index t x i) ty (.int .u8 ((numsOf s)[j.toNat]!)) :=
  Ev.mk (fun θ R _ w ea st _ _ _ _ => by
    have hlt : j.toNat < s.size := by omega
    have hn : (numsOf s)[j.toNat]! = ((s.data[j.toNat]'(by simpa using hlt)).toNat : Int) := by
      rw [List.getElem!_eq_getElem?_getD, List.getElem?_eq_getElem (by rw [numsOf_len]; exact hlt)]
      simp [numsOf]
    rw [hn]
    simp [execOp, evE_ok ea hx, evE_ok ea hi, Instr.index, asIntOf, run_underlying ht.under, h0, numsOf_get hlt])
theorem numsOf_bd (s : ByteArray) : ∀ x ∈ numsOf s, 0 ≤ x ∧ x ≤ 255 := by
  intro x hx
  simp only [numsOf, List.mem_map] at hx
  obtain ⟨y, _, rfl⟩ := hx
  have := y.toNat_lt
  omega
/-- A part of a string. -/
theorem Ev.sliceStr {t : TypeId} {x lo hi : Operand} {s : ByteArray} {k k' : IntKind} {i j : Int} [ht : TyStr P t] (hx : evE env x = some (.string s)) (hl : evE env lo = some (.int k i)) (hh : evE env hi = some (.int k' j)) (h0 : 0 ≤ i) (h1 : i ≤ j) (h2 : j ≤ s.size) :
    Ev P L env (.slice t x (some lo) (some hi) none) ty (.string (s.extract i.toNat j.toNat)) :=
  Ev.mk (fun θ R _ w ea st _ _ _ _ => by
    have h3 : 0 ≤ j := by omega
    simp [execOp, evE_ok ea hx, evE_ok ea hl, evE_ok ea hh, Instr.sliceAt, Instr.slice, Instr.sliceBounds, Instr.sliceBound, asIntOf, run_underlying ht.under, h0, h2, h3]
    intro h; exact absurd h (by omega))
theorem extract_all (s : ByteArray) : s.extract 0 s.size = s := by
  apply ByteArray.ext
  simp
end
end Go.V
