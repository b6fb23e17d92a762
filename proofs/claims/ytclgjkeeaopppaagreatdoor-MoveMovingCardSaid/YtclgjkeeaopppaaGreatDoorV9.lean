/- Two sides of one kind; slices as elements; maps that are cloned. -/
import Derived.Test.YtclgjkeeaopppaaGreatDoorV7
namespace Go.V
/-- A slice as an element. -/
structure SlV where
  ad : Option Addr
  n : Nat
  cap : Nat
  deriving Inhabited
def encSl (s : SlV) : List Value := [.slice s.ad s.n s.cap]
theorem encSl_one (s : SlV) : ∀ u ∈ encSl s, u.oneCell' = true := by simp [encSl, Value.oneCell']
/-- A function on the sides, changed at one. -/
def upd {α : Type} (f : Int → α) (k : Int) (v : α) : Int → α := fun j => if j = k then v else f j
theorem upd_same {α : Type} (f : Int → α) (k : Int) (v : α) : upd f k v k = v := by simp [upd]
theorem upd_other {α : Type} (f : Int → α) {k : Int} (_hk : k = 0 ∨ k = 1) (v : α) : upd f k v (1 - k) = f (1 - k) := by
  have : ¬ (1 - k = k) := by omega
  simp [upd, this]
theorem upd_ne {α : Type} (f : Int → α) {k j : Int} (h : j ≠ k) (v : α) : upd f k v j = f j := by simp [upd, h]
theorem upd_id {α : Type} (f : Int → α) (k : Int) : upd f k (f k) = f := by
  funext j
  by_cases h : j = k
  · subst h; simp [upd]
  · simp [upd, h]
def pr {α : Type} (f : Int → α) : List α := [f 0, f 1]
theorem pr_len {α : Type} (f : Int → α) : (pr f).length = 2 := rfl
theorem pr_get {α : Type} [Inhabited α] (f : Int → α) {k : Int} (hk : k = 0 ∨ k = 1) : (pr f)[k.toNat]! = f k := by rcases hk with rfl | rfl <;> rfl
theorem pr_set {α : Type} (f : Int → α) {k : Int} (hk : k = 0 ∨ k = 1) (v : α) : (pr f).set k.toNat v = pr (upd f k v) := by rcases hk with rfl | rfl <;> rfl
/-- What is said of both sides. -/
def twoL (f : Int → List HP) : HP := hstars (f 0 ++ f 1)
theorem Ent.twoOpen {f : Int → List HP} {k : Int} (hk : k = 0 ∨ k = 1) {L : List HP} : Ent (twoL f :: L) (f k ++ (f (1 - k) ++ L)) := fun θ R w s => by
  have s1 : Sat θ (f 0 ++ f 1 ++ (L ++ R)) w := Sat.ofStars (A := f 0 ++ f 1) s
  rcases hk with rfl | rfl
  · have e : (1 : Int) - 0 = 1 := rfl
    rw [e]
    simpa [List.append_assoc] using s1
  · have e : (1 : Int) - 1 = 0 := rfl
    rw [e]
    refine s1.perm ?_
    simp only [List.append_assoc]
    rw [← List.append_assoc, ← List.append_assoc (f 1)]
    exact List.perm_append_comm.append_right _
theorem Ent.twoClose {f : Int → List HP} {k : Int} (hk : k = 0 ∨ k = 1) {L : List HP} : Ent (f k ++ (f (1 - k) ++ L)) (twoL f :: L) := fun θ R w s => by
  refine Sat.toStars (A := f 0 ++ f 1) ?_
  rcases hk with rfl | rfl
  · have e : (1 : Int) - 0 = 1 := rfl
    rw [e] at s
    simpa [List.append_assoc] using s
  · have e : (1 : Int) - 1 = 0 := rfl
    rw [e] at s
    refine s.perm ?_
    simp only [List.append_assoc]
    rw [← List.append_assoc, ← List.append_assoc (f 0)]
    exact List.perm_append_comm.append_right _
theorem one_sub_cases {k : Int} (hk : k = 0 ∨ k = 1) : 1 - k = 0 ∨ 1 - k = 1 := by omega
theorem one_sub_sub (k : Int) : 1 - (1 - k) = k := by omega
end Go.V
