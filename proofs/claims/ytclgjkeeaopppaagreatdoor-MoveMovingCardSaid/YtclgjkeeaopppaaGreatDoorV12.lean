/- Bits, unsigned numbers, strings as bytes, slices made with room. -/
import Derived.Test.YtclgjkeeaopppaaGreatDoorV11
import Derived.Laws.BitsAllLaws
import Derived.Laws.DeepNot64
import Derived.Laws.IdiomStrings
namespace Go.V
section
variable {P : Program} {env : Env} {L : List HP} {ty : TypeId}
theorem Ev.bits {op : BinOp} {t yt : TypeId} {x y : Operand} {k : IntKind} {a b : Int} (ho : op = .and ∨ op = .or ∨ op = .xor) (hx : evE env x = some (.int k a)) (hy : evE env y = some (.int k b)) : Ev P L env (.binOp op t x y yt) ty (.int k (Go.bits op k a b)) :=
  Ev.mk (fun _ _ _ w ea _ _ _ _ _ => run_bin (evE_ok ea hx) (evE_ok ea hy) (by rcases ho with rfl | rfl | rfl <;> simp [go_sem]))
theorem Ev.xor64 {t yt : TypeId} {x y : Operand} {a b : Int} (hx : evE env x = some (.int .u64 a)) (hy : evE env y = some (.int .u64 b)) (h1 : 0 ≤ a) (h2 : a < 18446744073709551616) (h3 : 0 ≤ b) (h4 : b < 18446744073709551616) : Ev P L env (.binOp .xor t x y yt) ty (.int .u64 ((a.toNat ^^^ b.toNat : Nat) : Int)) := by
  have := Ev.bits (P := P) (L := L) (ty := ty) (t := t) (yt := yt) (op := .xor) (by simp) hx hy
  rwa [u64_xor a b h1 h2 h3 h4] at this
theorem Ev.or64 {t yt : TypeId} {x y : Operand} {a b : Int} (hx : evE env x = some (.int .u64 a)) (hy : evE env y = some (.int .u64 b)) (h1 : 0 ≤ a) (h2 : a < 18446744073709551616) (h3 : 0 ≤ b) (h4 : b < 18446744073709551616) : Ev P L env (.binOp .or t x y yt) ty (.int .u64 ((a.toNat ||| b.toNat : Nat) : Int)) := by
  have := Ev.bits (P := P) (L := L) (ty := ty) (t := t) (yt := yt) (op := .or) (by simp) hx hy
  rwa [u64_or a b h1 h2 h3 h4] at this
theorem Ev.and64 {t yt : TypeId} {x y : Operand} {a b : Int} (hx : evE env x = some (.int .u64 a)) (hy : evE env y = some (.int .u64 b)) (h1 : 0 ≤ a) (h2 : a < 18446744073709551616) (h3 : 0 ≤ b) (h4 : b < 18446744073709551616) : Ev P L env (.binOp .and t x y yt) ty (.int .u64 ((a.toNat &&& b.toNat : Nat) : Int)) := by
  have := Ev.bits (P := P) (L := L) (ty := ty) (t := t) (yt := yt) (op := .and) (by simp) hx hy
  rwa [u64_and a b h1 h2 h3 h4] at this
theorem Ev.and8 {t yt : TypeId} {x y : Operand} {a b : Int} (hx : evE env x = some (.int .u8 a)) (hy : evE env y = some (.int .u8 b)) (h1 : 0 ≤ a) (h2 : a < 256) (h3 : 0 ≤ b) (h4 : b < 256) : Ev P L env (.binOp .and t x y yt) ty (.int .u8 ((a.toNat &&& b.toNat : Nat) : Int)) := by
  have := Ev.bits (P := P) (L := L) (ty := ty) (t := t) (yt := yt) (op := .and) (by simp) hx hy
  rwa [u8_and a b h1 h2 h3 h4] at this
theorem Ev.or8 {t yt : TypeId} {x y : Operand} {a b : Int} (hx : evE env x = some (.int .u8 a)) (hy : evE env y = some (.int .u8 b)) (h1 : 0 ≤ a) (h2 : a < 256) (h3 : 0 ≤ b) (h4 : b < 256) : Ev P L env (.binOp .or t x y yt) ty (.int .u8 ((a.toNat ||| b.toNat : Nat) : Int)) := by
  have := Ev.bits (P := P) (L := L) (ty := ty) (t := t) (yt := yt) (op := .or) (by simp) hx hy
  rwa [u8_or a b h1 h2 h3 h4] at this
theorem Ev.xor8 {t yt : TypeId} {x y : Operand} {a b : Int} (hx : evE env x = some (.int .u8 a)) (hy : evE env y = some (.int .u8 b)) (h1 : 0 ≤ a) (h2 : a < 256) (h3 : 0 ≤ b) (h4 : b < 256) : Ev P L env (.binOp .xor t x y yt) ty (.int .u8 ((a.toNat ^^^ b.toNat : Nat) : Int)) := by
  have := Ev.bits (P := P) (L := L) (ty := ty) (t := t) (yt := yt) (op := .xor) (by simp) hx hy
  rwa [u8_xor a b h1 h2 h3 h4] at this
theorem Ev.shl {t yt : TypeId} {x y : Operand} {k k' : IntKind} {a b : Int} (hx : evE env x = some (.int k a)) (hy : evE env y = some (.int k' b)) (h0 : 0 ≤ b) : Ev P L env (.binOp .shl t x y yt) ty (.int k (k.wrap (a * 2 ^ min b.toNat k.bits))) :=
  Ev.mk (fun _ _ _ w ea _ _ _ _ _ => run_bin (evE_ok ea hx) (evE_ok ea hy) (by
    have : ¬ b < 0 := by omega
    simp [binOp, Op.shift, this]))
theorem Ev.shr {t yt : TypeId} {x y : Operand} {k k' : IntKind} {a b : Int} (hx : evE env x = some (.int k a)) (hy : evE env y = some (.int k' b)) (h0 : 0 ≤ b) : Ev P L env (.binOp .shr t x y yt) ty (.int k (a.fdiv (2 ^ min b.toNat k.bits))) :=
  Ev.mk (fun _ _ _ w ea _ _ _ _ _ => run_bin (evE_ok ea hx) (evE_ok ea hy) (by
    have : ¬ b < 0 := by omega
    simp [binOp, Op.shift, this]))
theorem Ev.quo64 {t yt : TypeId} {x y : Operand} {a b : Int} (hx : evE env x = some (.int .u64 a)) (hy : evE env y = some (.int .u64 b)) (h0 : 0 ≤ a) (h1 : a ≤ 18446744073709551615) (hb : 0 < b) : Ev P L env (.binOp .quo t x y yt) ty (.int .u64 (a / b)) :=
  Ev.mk (fun _ _ _ w ea _ _ _ _ _ => run_bin (evE_ok ea hx) (evE_ok ea hy) (by
    have hb' : b ≠ 0 := by omega
    have h2 := Int.ediv_nonneg h0 (Int.le_of_lt hb)
    have h3 := Int.ediv_le_self b h0
    simp [binOp, Op.intDiv, hb', Int.tdiv_eq_ediv_of_nonneg h0, IntWalk.u64_in _ (show 0 ≤ a / b ∧ a / b ≤ 18446744073709551615 by omega)]))
theorem Ev.lenStr {t : TypeId} {x : Operand} {s : ByteArray} [ht : TyStr P t] (hx : evE env x = some (.string s)) : Ev P L env (.call { callee := .builtin .len, args := #[x], argTypes := #[t] }) ty (.int .i64 (s.size : Int)) :=
  Ev.mk (fun _ _ _ w ea _ _ _ _ _ => by
    have h := run_len_string (P := P) w t ty s ht.under
    simp [execOp, resolve, invoke, evE_ok ea hx, builtin, h, goInt])
/-- The bytes of a string, as numbers. -/
def numsOf (s : ByteArray) : List Int := s.data.toList.map fun b => (b.toNat : Int)
theorem numsOf_len (s : ByteArray) : (numsOf s).length = s.size := by simp [numsOf]
/-- []byte(s): the slice is not written. -/
theorem Ef.strBytes {src t : TypeId} {x : Operand} {s : ByteArray} {E sz bb : Nat} {z : List Value} [hs : TyStr P src] [ht : TySl P t E sz bb z] [he : TyInt P E .u8] (hx : evE env x = some (.string s)) :
    Ef P L env (.convert src t x) ty (fun v L' => ∃ b c, v = .slice (some ⟨b, 0, none⟩) s.size c ∧ s.size ≤ c ∧ L' = isl (encI .u8) 1 (some ⟨b, 0, none⟩) (numsOf s) :: L) :=
  Ef.val (fun θ R ρ w ea st dst pos af g => by
    have h := run_bytes_of_string (P := P) w src t E s hs.under ht.under he.under
    refine ⟨.slice (some ⟨w.heap.size, 0, none⟩) s.size (grownCap w s.size 0 E), w.drew.alloc (.cells (bytesRow s (grownCap w s.size 0 E)) E ((bytesRow s (grownCap w s.size 0 E)).size, (bytesRow s (grownCap w s.size 0 E)).size + 1)), _, by simp [execOp, evE_ok ea hx, h], ⟨_, _, rfl, grownCap_ge _ _ _ _, rfl⟩, ?_⟩
    have s1 : Sat θ (L ++ R) w.drew := st.drew
    have s2 := s1.alloc (o := .cells (bytesRow s (grownCap w s.size 0 E)) E ((bytesRow s (grownCap w s.size 0 E)).size, (bytesRow s (grownCap w s.size 0 E)).size + 1))
    obtain ⟨ok, ι, h, a, b1, c1, ι₀, h₁, h₂, d1, d2, d3, d4, d5, d6⟩ := s2.freeze
    refine ⟨ok, ι, h, a, b1, c1, ι₀, h₁, h₂, d1, d2, d3, d4, ⟨fun _ _ => rfl, .inr ⟨_, 0, _, _, _, rfl, d5, ?_⟩⟩, d6⟩
    intro i v hv
    rw [encI_flat] at hv
    simp only [numsOf, List.map_map, List.getElem?_map, Option.map_eq_some_iff] at hv
    obtain ⟨b, hb, rfl⟩ := hv
    have hlt : i < s.data.size := by
      rcases Nat.lt_or_ge i s.data.size with h | h
      · exact h
      · rw [List.getElem?_eq_none (by simpa using h)] at hb; cases hb
    simp only [bytesRow, Nat.zero_add]
    rw [Array.getElem?_append_left (by simpa using hlt)]
    simp at hb
    simp [hb])
/-- make([]T, 0, n), T of one cell. -/
theorem Ef.make0 {t : TypeId} {x y : Operand} {E bb : Nat} {z0 : Value} {α : Type} (enc : α → List Value) {n : Int} [ht : TySl P t E 1 bb [z0]] (hx : evE env x = some (.int .i64 0)) (hy : evE env y = some (.int .i64 n)) (h0 : 0 ≤ n) (h1 : n * bb ≤ 281474976710656) (h2 : n ≤ 1000000000) :
    Ef P L env (.makeSlice t x y) ty (fun v L' => ∃ b, v = .slice (some ⟨b, 0, none⟩) 0 n.toNat ∧ L' = osl enc 1 E (some ⟨b, 0, none⟩) n.toNat [] :: L) :=
  Ef.val (fun θ R a w ea s dst pos af g => ⟨.slice (some ⟨w.heap.size, 0, none⟩) 0 n.toNat, w.alloc (.cells (List.replicate n.toNat z0).toArray E), _, by
    obtain ⟨ii, zz, i1, i2, i3, i4, i5⟩ := ht.parts
    have hz : zz.cells = #[z0] := by
      have := i3
      apply Array.ext'
      simpa using this
    have hm : madeCells zz.cells (n.toNat * ii.size) = (List.replicate n.toNat z0).toArray := by
      rw [hz, i4, Nat.mul_one]
      exact range_map_const _ _ _ (fun i _ => by simp [Nat.mod_one])
    have hk := run_make (P := P) w t E ii zz ht.under i1 i2 .i64 .i64 0 n (by omega) h0 (by rw [i5, Int.mul_comm]; omega) (by omega)
    rw [hm] at hk
    simp [execOp, evE_ok ea hx, evE_ok ea hy, hk], ⟨_, rfl, rfl⟩, by
      have s1 := s.alloc (o := .cells (List.replicate n.toNat z0).toArray E)
      exact Sat.osl_mk (enc := enc) (sz := 1) (cap := n.toNat) (xs := []) (L := L ++ R) s1 (by simp) (by simp) (by simp only [maxLen]; omega) (by simp) (by simp)⟩)
end
end Go.V
