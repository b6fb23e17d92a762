/- Contracts of package wire: reading. -/
import Derived.Test.YtnpienjfapjjoaaW1
namespace Go.Proofs.Ytnpienjfapjjoaa
open Go.V
theorem islDrop {α : Type} {enc : α → List Value} {sz : Nat} {ad : Option Addr} {xs : List α} {cap : Nat} (hc : xs.length ≤ cap) (k : Nat) {L : List HP} : Ent (isl enc sz ad xs :: L) (isl enc sz (advA ad cap sz k) (xs.drop k) :: L) := by
  refine Ent.head fun θ R w s => ?_
  obtain ⟨ok, ι, h, a, b1, c, ι₀, h₁, h₂, d1, d2, d3, d4, ⟨e1, e2⟩, d6⟩ := s
  refine ⟨ok, ι, h, a, b1, c, ι₀, h₁, h₂, d1, d2, d3, d4, ⟨fun x hx => e1 x (List.mem_of_mem_drop hx), ?_⟩, d6⟩
  rcases e2 with rfl | ⟨g, off, cur, E, fz, rfl, f1, f2⟩
  · exact .inl (by simp)
  by_cases hk : xs.length ≤ k
  · exact .inl (List.drop_eq_nil_of_le hk)
  · right
    have hne : ¬ cap = k := by omega
    refine ⟨g, off + k * sz, cur, E, fz, ?_, f1, ?_⟩
    · simp only [advA, hne, if_false, Option.map_some, Addr_add_lit']
    · intro i v hv
      have hflat : ∀ (l : List α) (k : Nat), (∀ x ∈ l, (enc x).length = sz) → (l.drop k).flatMap enc = (l.flatMap enc).drop (k * sz) := by
        intro l
        induction l with
        | nil => intro k _; simp
        | cons y l ih =>
          intro k hl
          cases k with
          | zero => simp
          | succ k =>
            have hy := hl y (by simp)
            simp only [List.drop_succ_cons, List.flatMap_cons]
            have h1 : (enc y).drop ((k + 1) * sz) = [] := List.drop_of_length_le (by rw [hy, Nat.succ_mul]; omega)
            rw [ih k (fun x hx => hl x (List.mem_cons_of_mem _ hx)), List.drop_append, h1, hy, Nat.succ_mul, Nat.add_sub_cancel, List.nil_append]
      rw [hflat xs k e1, List.getElem?_drop] at hv
      have := f2 _ _ hv
      rw [Nat.add_assoc]
      exact this
abbrev rdL (b : Nat) (rest : List Int) (err : Int) (x : SlV) (L : List HP) : List HP := hpure (rest.length ≤ x.cap) :: obj b 103 [.slice x.ad rest.length x.cap, .int .i64 err] :: isl (encI .u8) 1 x.ad rest :: L
/-- Variable b is a reader with these bytes left and this error. -/
def RdR (b : Nat) (rest : List Int) (err : Int) : HP := hex fun x : SlV => hstars (rdL b rest err x [])
theorem rdClose {b : Nat} {rest : List Int} {err : Int} {L : List HP} (x : SlV) (h : rest.length ≤ x.cap) : Ent (obj b 103 [.slice x.ad rest.length x.cap, .int .i64 err] :: isl (encI .u8) 1 x.ad rest :: L) (RdR b rest err :: L) := Ent.closeX (f := fun x => rdL b rest err x []) x (Ent.pure h (Ent.refl _))
attribute [local irreducible] G GO GP GPW GPK Ev Ef EfR Ent CB GB
theorem read_spec {L : List HP} (ad : Option Addr) (n c : Nat) (xs : List Int) [hrd : Rds L ad Int (encI .u8) 1 xs] (hn : n = xs.length) (hm : n ≤ 1000000000) :
    Tri Try.prog 35 #[.slice ad n c] L (fun v L' => ∃ b, v = .pointer (some ⟨b, 0, none⟩) ∧ L' = RdR b xs 0 :: L) := by
  refine Tri.body (args := [.slice ad n c]) 7 en35 Try.func35 rfl rfl rfl (by simp) ?_
  repeat (first | refine run ?_ | intro _)
  (first | ((with_reducible apply GO.atPlain); first | refine GO.ef (Ef.callAll (cloneB_spec _ _ _ xs hn hm) rfl) (by decide) ?_ | refine GO.ef (by exact Ef.callAll (cloneB_spec _ _ _ xs hn hm) rfl) (by decide) ?_) | ((with_reducible apply GPW.atEf); first | refine GPW.ef (Ef.callAll (cloneB_spec _ _ _ xs hn hm) rfl) (by decide) ?_ | refine GPW.ef (by exact Ef.callAll (cloneB_spec _ _ _ xs hn hm) rfl) (by decide) ?_))
  rintro _ _ ⟨ad1, cap1, rfl, rfl⟩
  refine GO.fact (osl_cap (ad := ad1)) ?_
  rintro ⟨hcp, _⟩
  repeat (first | refine run ?_ | intro _)
  rename_i b
  refine KX.ends (by first | exact ResOk.tmps rfl | (repeat (first | exact ResOk.nil | refine ResOk.tmp rfl ?_ | refine ResOk.cell rfl (by rfl) ?_ | refine ResOk.cell1 rfl ?_))) ?_ ⟨b, rfl, rfl⟩
  refine Ent.trans ?_ (rdClose ⟨ad1, 0, cap1⟩ hcp)
  exact Ent.consR Ent.freezeSl
def oct (rest : List Int) (err : Int) : Int × List Int × Int := if err ≠ 0 then (0, rest, err) else match rest with
  | [] => (0, [], 3)
  | b :: t => (b, t, 0)
theorem octet_spec {L : List HP} (b : Nat) (rest : List Int) (err : Int) :
    Tri Try.prog 60 #[.pointer (some ⟨b, 0, none⟩)] (RdR b rest err :: L) (fun v L' => v = .int .u8 (oct rest err).1 ∧ L' = RdR b (oct rest err).2.1 (oct rest err).2.2 :: L) := by
  refine Tri.body (args := [.pointer (some ⟨b, 0, none⟩)]) 33 en60 Try.func60 rfl rfl rfl (by simp) ?_
  refine G.openX (f := fun x => rdL b rest err x []) ?_
  intro x
  simp only [List.cons_append, List.nil_append]
  refine G.pureE ?_
  intro hcap
  by_cases he : err = 0
  case neg =>
    repeat (first | refine run ?_ | intro _)
    refine KX.ends (by first | exact ResOk.tmps rfl | (repeat (first | exact ResOk.nil | refine ResOk.tmp rfl ?_ | refine ResOk.cell rfl (by rfl) ?_ | refine ResOk.cell1 rfl ?_))) (rdClose x hcap) ⟨?_, ?_⟩
    · simp [oct, he, resV]
    · simp [oct, he]
  subst he
  cases rest with
  | nil =>
    repeat (first | refine run ?_ | intro _)
    exact KX.ends (by first | exact ResOk.tmps rfl | (repeat (first | exact ResOk.nil | refine ResOk.tmp rfl ?_ | refine ResOk.cell rfl (by rfl) ?_ | refine ResOk.cell1 rfl ?_))) (rdClose x hcap) ⟨by simp [oct, resV], by simp [oct]⟩
  | cons y t =>
    have hll : (y :: t).length = t.length + 1 := rfl
    have hl1 : ((y :: t).length : Int) = t.length + 1 := by simp
    repeat (first | refine run ?_ | intro _)
    refine KX.ends (by first | exact ResOk.tmps rfl | (repeat (first | exact ResOk.nil | refine ResOk.tmp rfl ?_ | refine ResOk.cell rfl (by rfl) ?_ | refine ResOk.cell1 rfl ?_))) ?_ ⟨by simp [oct, resV], rfl⟩
    rw [show oct (y :: t) 0 = (y, t, 0) by simp [oct]]
    refine Ent.trans ?_ (rdClose ⟨advA x.ad x.cap 1 1, 0, x.cap - 1⟩ (by simp only []; simp only [List.length_cons] at hcap; omega))
    exact Ent.consR (islDrop (xs := y :: t) hcap 1)
theorem oct_err {rest : List Int} {err : Int} (h : err ≠ 0) : oct rest err = (0, rest, err) := by simp [oct, h]
/-- Reading a number, after errors too. -/
def readU (rest : List Int) (err : Int) : Nat × List Int × Int := if err ≠ 0 then (0, rest, err) else ((rdU rest 0 0).1, (rdU rest 0 0).2.2, (rdU rest 0 0).2.1)
theorem rUint_spec {L : List HP} (b : Nat) (rest : List Int) (err : Int) (hb : ByteL rest) :
    Tri Try.prog 37 #[.pointer (some ⟨b, 0, none⟩)] (RdR b rest err :: L) (fun v L' => v = .int .u64 (readU rest err).1 ∧ L' = RdR b (readU rest err).2.1 (readU rest err).2.2 :: L) := by
  refine Tri.body (args := [.pointer (some ⟨b, 0, none⟩)]) 43 en37 Try.func37 rfl rfl rfl (by simp) ?_
  repeat (first | refine run ?_ | intro _)
  refine G.loop (α := Nat × Nat × List Int) (fun g => g.1 ≤ 9 ∧ g.2.1 < 128 ^ g.1 ∧ ByteL g.2.2 ∧ (err = 0 → rdU g.2.2 g.1 g.2.1 = rdU rest 0 0) ∧ (err ≠ 0 → g.2.2 = rest)) (fun g => [(0, .pointer (some ⟨b, 0, none⟩)), (3, .int .u64 (g.2.1 : Int)), (4, .int .i64 (g.1 : Int))]) (fun g => RdR b g.2.2 err :: L) (fun g => 9 - g.1) (0, 0, rest) ⟨by simp, by simp, hb, fun _ => rfl, fun _ => rfl⟩ (by repeat (first | exact EnvSub.nil _ | refine EnvSub.cons rfl ?_)) (Ent.refl _) ?_
  rintro ⟨i, acc, l⟩ ⟨hi, ha, hl, hr, hre⟩
  simp only [] at hi ha hl hr hre ⊢
  repeat (first | refine run ?_ | intro _)
  (first | ((with_reducible apply GO.atPlain); first | refine GO.ef (Ef.callAt (octet_spec b l err) rfl) (by decide) ?_ | refine GO.ef (by exact Ef.callAt (octet_spec b l err) rfl) (by decide) ?_) | ((with_reducible apply GPW.atEf); first | refine GPW.ef (Ef.callAt (octet_spec b l err) rfl) (by decide) ?_ | refine GPW.ef (by exact Ef.callAt (octet_spec b l err) rfl) (by decide) ?_))
  rintro _ _ ⟨rfl, rfl⟩
  by_cases he : err = 0
  case neg =>
    rw [oct_err he, hre he]
    repeat (first | refine run ?_ | intro _)
    refine GO.openX (f := fun x => rdL b rest err x []) ?_
    intro x
    simp only [List.cons_append, List.nil_append]
    refine GO.pureE ?_
    intro hcap
    repeat (first | refine run ?_ | intro _)
    exact KX.ends (by first | exact ResOk.tmps rfl | (repeat (first | exact ResOk.nil | refine ResOk.tmp rfl ?_ | refine ResOk.cell rfl (by rfl) ?_ | refine ResOk.cell1 rfl ?_))) (rdClose x hcap) ⟨by simp [readU, he, resV], by simp [readU, he]⟩
  subst he
  have hrd := hr rfl
  clear hr hre
  cases l with
  | nil =>
    rw [show oct [] 0 = (0, [], 3) by simp [oct]]
    repeat (first | refine run ?_ | intro _)
    refine GO.openX (f := fun x => rdL b [] 3 x []) ?_
    intro x
    simp only [List.cons_append, List.nil_append]
    refine GO.pureE ?_
    intro hcap
    repeat (first | refine run ?_ | intro _)
    have e : readU rest 0 = (0, [], 3) := by
      simp only [readU, ← hrd]
      simp [rdU]
    exact KX.ends (by first | exact ResOk.tmps rfl | (repeat (first | exact ResOk.nil | refine ResOk.tmp rfl ?_ | refine ResOk.cell rfl (by rfl) ?_ | refine ResOk.cell1 rfl ?_))) (rdClose x hcap) ⟨by rw [e]; rfl, by rw [e]⟩
  | cons y t =>
    rw [show oct (y :: t) 0 = (y, t, 0) by simp [oct]]
    have hy := hl y (by simp)
    have ht : ByteL t := fun x hx => hl x (List.mem_cons_of_mem _ hx)
    repeat (first | refine run ?_ | intro _)
    refine GO.openX (f := fun x => rdL b t 0 x []) ?_
    intro x
    simp only [List.cons_append, List.nil_append]
    refine GO.pureE ?_
    intro hcap
    by_cases hbad : (i = 9 ∧ 1 < y) ∨ (0 < i ∧ y = 0)
    · have e : readU rest 0 = (0, t, 2) := by
        simp only [readU, ← hrd, rdU]
        simp [hbad]
      rcases hbad with ⟨h9, h1⟩ | ⟨h9, h1⟩
      · repeat (first | refine run ?_ | intro _)
        exact KX.ends (by first | exact ResOk.tmps rfl | (repeat (first | exact ResOk.nil | refine ResOk.tmp rfl ?_ | refine ResOk.cell rfl (by rfl) ?_ | refine ResOk.cell1 rfl ?_))) (rdClose x hcap) ⟨by rw [e]; rfl, by rw [e]⟩
      · by_cases h99 : i = 9
        · repeat (first | refine run ?_ | intro _)
          exact KX.ends (by first | exact ResOk.tmps rfl | (repeat (first | exact ResOk.nil | refine ResOk.tmp rfl ?_ | refine ResOk.cell rfl (by rfl) ?_ | refine ResOk.cell1 rfl ?_))) (rdClose x hcap) ⟨by rw [e]; rfl, by rw [e]⟩
        · repeat (first | refine run ?_ | intro _)
          exact KX.ends (by first | exact ResOk.tmps rfl | (repeat (first | exact ResOk.nil | refine ResOk.tmp rfl ?_ | refine ResOk.cell rfl (by rfl) ?_ | refine ResOk.cell1 rfl ?_))) (rdClose x hcap) ⟨by rw [e]; rfl, by rw [e]⟩
    have hp := pow128_le hi
    obtain ⟨yN, hyN⟩ : ∃ yN : Nat, y = (yN : Int) := ⟨y.toNat, by omega⟩
    subst hyN
    have hm := Nat.mod_lt yN (show 0 < 128 by decide)
    have hlt : yN % 128 * 128 ^ i < 18446744073709551616 := by
      by_cases h9 : i = 9
      · subst h9
        have h2 : yN ≤ 1 := by omega
        have h3 : yN % 128 * 128 ^ 9 ≤ 1 * 128 ^ 9 := Nat.mul_le_mul_right _ (by omega)
        omega
      · have h3 : yN % 128 * 128 ^ i ≤ 127 * 128 ^ i := Nat.mul_le_mul_right _ (by omega)
        have hp2 : (128 : Nat) ^ (i + 1) ≤ 9223372036854775808 := pow128_le (by omega)
        have hp3 : (128 : Nat) ^ (i + 1) = 128 ^ i * 128 := Nat.pow_succ ..
        omega
    repeat (first | ((fail_if_success (with_reducible refine G.atSS 7 ?_)); (with_reducible apply G.seq)) | refine runS ?_ | intro _)
    refine G.join (α := Unit) (fun _ => True) (fun _ => [(0, .pointer (some ⟨b, 0, none⟩)), (3, .int .u64 (acc : Int)), (4, .int .i64 (i : Int)), (5, .int .u8 (yN : Int))]) (fun _ => RdR b t 0 :: L) ?_ ?_
    · by_cases h9 : i = 9
      · repeat (first | refine run ?_ | intro _)
        exact ⟨(), trivial, (by repeat (first | exact EnvSub.nil _ | refine EnvSub.cons rfl ?_)), rdClose x hcap⟩
      · by_cases h0 : i = 0
        · repeat (first | refine run ?_ | intro _)
          exact ⟨(), trivial, (by repeat (first | exact EnvSub.nil _ | refine EnvSub.cons rfl ?_)), rdClose x hcap⟩
        · repeat (first | refine run ?_ | intro _)
          exact ⟨(), trivial, (by repeat (first | exact EnvSub.nil _ | refine EnvSub.cons rfl ?_)), rdClose x hcap⟩
    rintro _ _
    repeat (first | refine run ?_ | intro _)
    (first | ((with_reducible apply GO.atPlain); first | refine GO.ev (Ev.and8 rfl rfl (by omega) (by omega) (by decide) (by decide)) (by decide) ?_ | refine GO.ev (by exact Ev.and8 rfl rfl (by omega) (by omega) (by decide) (by decide)) (by decide) ?_) | ((with_reducible apply GPW.atEv); first | refine GPW.evP (Ev.and8 rfl rfl (by omega) (by omega) (by decide) (by decide)) (by decide) ?_ | refine GPW.evP (by exact Ev.and8 rfl rfl (by omega) (by omega) (by decide) (by decide)) (by decide) ?_) | ((with_reducible apply GPW.atEv); first | refine GPW.evL (Ev.and8 rfl rfl (by omega) (by omega) (by decide) (by decide)) (by decide) ?_ | refine GPW.evL (by exact Ev.and8 rfl rfl (by omega) (by omega) (by decide) (by decide)) (by decide) ?_))
    rw [Int.toNat_natCast, show (127 : Int).toNat = 127 from rfl, and127 yN (by omega)]
    repeat (first | refine run ?_ | intro _)
    (first | ((with_reducible apply GO.atPlain); first | refine GO.ev (Ev.shl rfl rfl (by omega)) (by decide) ?_ | refine GO.ev (by exact Ev.shl rfl rfl (by omega)) (by decide) ?_) | ((with_reducible apply GPW.atEv); first | refine GPW.evP (Ev.shl rfl rfl (by omega)) (by decide) ?_ | refine GPW.evP (by exact Ev.shl rfl rfl (by omega)) (by decide) ?_) | ((with_reducible apply GPW.atEv); first | refine GPW.evL (Ev.shl rfl rfl (by omega)) (by decide) ?_ | refine GPW.evL (by exact Ev.shl rfl rfl (by omega)) (by decide) ?_))
    have e1 : IntKind.u64.wrap (((yN % 128 : Nat) : Int) * 2 ^ min (7 * (i : Int)).toNat IntKind.u64.bits) = ((yN % 128 * 2 ^ (7 * i) % 18446744073709551616 : Nat) : Int) := by
      rw [IntKind.wrap_u64, show min (7 * (i : Int)).toNat IntKind.u64.bits = 7 * i by simp [IntKind.bits]; omega]
      simp
    have hml := Nat.mod_lt (yN % 128 * 2 ^ (7 * i)) (show 0 < 18446744073709551616 by decide)
    rw [e1]
    (first | ((with_reducible apply GO.atPlain); first | refine GO.ev (Ev.or64 rfl rfl (by omega) (by omega) (by omega) (by omega)) (by decide) ?_ | refine GO.ev (by exact Ev.or64 rfl rfl (by omega) (by omega) (by omega) (by omega)) (by decide) ?_) | ((with_reducible apply GPW.atEv); first | refine GPW.evP (Ev.or64 rfl rfl (by omega) (by omega) (by omega) (by omega)) (by decide) ?_ | refine GPW.evP (by exact Ev.or64 rfl rfl (by omega) (by omega) (by omega) (by omega)) (by decide) ?_) | ((with_reducible apply GPW.atEv); first | refine GPW.evL (Ev.or64 rfl rfl (by omega) (by omega) (by omega) (by omega)) (by decide) ?_ | refine GPW.evL (by exact Ev.or64 rfl rfl (by omega) (by omega) (by omega) (by omega)) (by decide) ?_))
    rw [Int.toNat_natCast, Int.toNat_natCast, or_step7 ha hlt]
    by_cases h128 : yN < 128
    · repeat (first | refine run ?_ | intro _)
      have e : readU rest 0 = (acc + yN % 128 * 128 ^ i, t, 0) := by
        rw [readU, if_neg (by simp), ← hrd]
        simp only [rdU]
        rw [if_neg hbad, if_pos (by omega), Int.toNat_natCast]
      exact KX.ends (by first | exact ResOk.tmps rfl | (repeat (first | exact ResOk.nil | refine ResOk.tmp rfl ?_ | refine ResOk.cell rfl (by rfl) ?_ | refine ResOk.cell1 rfl ?_))) (Ent.refl _) ⟨by rw [e]; rfl, by rw [e]⟩
    · repeat (first | refine run ?_ | intro _)
      have h9 : i ≠ 9 := by
        intro h9
        exact hbad (.inl ⟨h9, by omega⟩)
      have hp3 : (128 : Nat) ^ (i + 1) = 128 ^ i * 128 := Nat.pow_succ ..
      have h3 : yN % 128 * 128 ^ i ≤ 127 * 128 ^ i := Nat.mul_le_mul_right _ (by omega)
      refine ⟨(i + 1, acc + yN % 128 * 128 ^ i, t), ⟨by simp only []; omega, by simp only []; omega, ht, fun _ => ?_, fun h => absurd rfl h⟩, by simp only []; omega, ?_, Ent.refl _⟩
      · simp only []
        rw [← hrd]
        simp only [rdU]
        rw [if_neg hbad, if_neg (by omega), Int.toNat_natCast]
      · simp only []
        rw [show (((i + 1 : Nat)) : Int) = (i : Int) + 1 by omega]
        exact (by repeat (first | exact EnvSub.nil _ | refine EnvSub.cons rfl ?_))
theorem readU_lt {rest : List Int} (err : Int) (h : ByteL rest) : (readU rest err).1 < 18446744073709551616 := by
  unfold readU
  split
  · simp
  · exact rdU_lt rest 0 0 h (by omega) (by decide)
theorem readU_byte {rest : List Int} (err : Int) (h : ByteL rest) : ByteL (readU rest err).2.1 := by
  unfold readU
  split
  · exact h
  · exact rdU_byte rest 0 0 h
theorem readU_len (rest : List Int) (err : Int) : (readU rest err).2.1.length ≤ rest.length := by
  unfold readU
  split
  · exact Nat.le_refl _
  · exact rdU_len rest 0 0
theorem i64_xor_neg (a : Nat) (ha : a < 9223372036854775808) : bits .xor .i64 (a : Int) (-1) = -1 - (a : Int) := by
  have h : bits .xor .i64 (a : Int) (-1) = bits .xor .i64 (-1) (a : Int) := by
    show IntKind.i64.wrap ((BitVec.ofInt 64 (a : Int) ^^^ BitVec.ofInt 64 (-1)).toNat : Int) = IntKind.i64.wrap ((BitVec.ofInt 64 (-1) ^^^ BitVec.ofInt 64 (a : Int)).toNat : Int)
    rw [BitVec.xor_comm]
  rw [h]
  exact i64_not a ha
theorem i64_xor_zero (a : Nat) (ha : a < 9223372036854775808) : bits .xor .i64 (a : Int) 0 = (a : Int) := by
  show IntKind.i64.wrap ((BitVec.ofInt 64 (a : Int) ^^^ BitVec.ofInt 64 0).toNat : Int) = _
  rw [show BitVec.ofInt 64 0 = 0#64 from rfl, BitVec.xor_zero, BitVec.ofInt_natCast, BitVec.toNat_ofNat, Nat.mod_eq_of_lt (by omega), IntKind.wrap_i64]
  omega
theorem unzigzag_spec (u : Nat) (hu : u < 18446744073709551616) :
    Tri Try.prog 68 #[.int .u64 u] [] (fun v L => v = .int .i64 (unzz u) ∧ L = []) := by
  refine Tri.body (args := [.int .u64 (u : Int)]) 11 en68 Try.func68 rfl rfl rfl (by simp) ?_
  repeat (first | refine run ?_ | intro _)
  (first | ((with_reducible apply GO.atPlain); first | refine GO.ev (Ev.shr rfl rfl (by decide)) (by decide) ?_ | refine GO.ev (by exact Ev.shr rfl rfl (by decide)) (by decide) ?_) | ((with_reducible apply GPW.atEv); first | refine GPW.evP (Ev.shr rfl rfl (by decide)) (by decide) ?_ | refine GPW.evP (by exact Ev.shr rfl rfl (by decide)) (by decide) ?_) | ((with_reducible apply GPW.atEv); first | refine GPW.evL (Ev.shr rfl rfl (by decide)) (by decide) ?_ | refine GPW.evL (by exact Ev.shr rfl rfl (by decide)) (by decide) ?_))
  have e2 : ((u : Nat) : Int).fdiv (2 ^ min ((1 : Int).toNat) IntKind.u64.bits) = ((u / 2 : Nat) : Int) := by
    rw [Int.fdiv_eq_ediv_of_nonneg _ (by decide)]
    simp [IntKind.bits]
  rw [e2]
  repeat (first | refine run ?_ | intro _)
  (first | ((with_reducible apply GO.atPlain); first | refine GO.ev (Ev.and64 rfl rfl (by omega) (by omega) (by decide) (by decide)) (by decide) ?_ | refine GO.ev (by exact Ev.and64 rfl rfl (by omega) (by omega) (by decide) (by decide)) (by decide) ?_) | ((with_reducible apply GPW.atEv); first | refine GPW.evP (Ev.and64 rfl rfl (by omega) (by omega) (by decide) (by decide)) (by decide) ?_ | refine GPW.evP (by exact Ev.and64 rfl rfl (by omega) (by omega) (by decide) (by decide)) (by decide) ?_) | ((with_reducible apply GPW.atEv); first | refine GPW.evL (Ev.and64 rfl rfl (by omega) (by omega) (by decide) (by decide)) (by decide) ?_ | refine GPW.evL (by exact Ev.and64 rfl rfl (by omega) (by omega) (by decide) (by decide)) (by decide) ?_))
  rw [Int.toNat_natCast, show (1 : Int).toNat = 1 from rfl, Nat.and_one_is_mod]
  repeat (first | refine run ?_ | intro _)
  by_cases h : u % 2 = 1
  · rw [h]
    (first | ((with_reducible apply GO.atPlain); first | refine GO.ev (Ev.bits (by simp) rfl rfl) (by decide) ?_ | refine GO.ev (by exact Ev.bits (by simp) rfl rfl) (by decide) ?_) | ((with_reducible apply GPW.atEv); first | refine GPW.evP (Ev.bits (by simp) rfl rfl) (by decide) ?_ | refine GPW.evP (by exact Ev.bits (by simp) rfl rfl) (by decide) ?_) | ((with_reducible apply GPW.atEv); first | refine GPW.evL (Ev.bits (by simp) rfl rfl) (by decide) ?_ | refine GPW.evL (by exact Ev.bits (by simp) rfl rfl) (by decide) ?_))
    rw [show (-((1 : Nat) : Int)) = -1 from rfl, i64_xor_neg (u / 2) (by omega)]
    repeat (first | refine run ?_ | intro _)
    exact KX.ends (by first | exact ResOk.tmps rfl | (repeat (first | exact ResOk.nil | refine ResOk.tmp rfl ?_ | refine ResOk.cell rfl (by rfl) ?_ | refine ResOk.cell1 rfl ?_))) (Ent.refl _) ⟨by simp only [resV, unzz, if_pos h]; congr 1; omega, rfl⟩
  · rw [show u % 2 = 0 by omega]
    (first | ((with_reducible apply GO.atPlain); first | refine GO.ev (Ev.bits (by simp) rfl rfl) (by decide) ?_ | refine GO.ev (by exact Ev.bits (by simp) rfl rfl) (by decide) ?_) | ((with_reducible apply GPW.atEv); first | refine GPW.evP (Ev.bits (by simp) rfl rfl) (by decide) ?_ | refine GPW.evP (by exact Ev.bits (by simp) rfl rfl) (by decide) ?_) | ((with_reducible apply GPW.atEv); first | refine GPW.evL (Ev.bits (by simp) rfl rfl) (by decide) ?_ | refine GPW.evL (by exact Ev.bits (by simp) rfl rfl) (by decide) ?_))
    rw [show (-((0 : Nat) : Int)) = 0 from rfl, i64_xor_zero (u / 2) (by omega)]
    repeat (first | refine run ?_ | intro _)
    exact KX.ends (by first | exact ResOk.tmps rfl | (repeat (first | exact ResOk.nil | refine ResOk.tmp rfl ?_ | refine ResOk.cell rfl (by rfl) ?_ | refine ResOk.cell1 rfl ?_))) (Ent.refl _) ⟨by simp only [resV, unzz, if_neg h], rfl⟩
theorem rInt_spec {L : List HP} (b : Nat) (rest : List Int) (err : Int) (hb : ByteL rest) :
    Tri Try.prog 54 #[.pointer (some ⟨b, 0, none⟩)] (RdR b rest err :: L) (fun v L' => v = .int .i64 (unzz (readU rest err).1) ∧ L' = RdR b (readU rest err).2.1 (readU rest err).2.2 :: L) := by
  refine Tri.body (args := [.pointer (some ⟨b, 0, none⟩)]) 6 en54 Try.func54 rfl rfl rfl (by simp) ?_
  repeat (first | refine run ?_ | intro _)
  (first | ((with_reducible apply GO.atPlain); first | refine GO.ef (Ef.callAt (rUint_spec b rest err hb) rfl) (by decide) ?_ | refine GO.ef (by exact Ef.callAt (rUint_spec b rest err hb) rfl) (by decide) ?_) | ((with_reducible apply GPW.atEf); first | refine GPW.ef (Ef.callAt (rUint_spec b rest err hb) rfl) (by decide) ?_ | refine GPW.ef (by exact Ef.callAt (rUint_spec b rest err hb) rfl) (by decide) ?_))
  rintro _ _ ⟨rfl, rfl⟩
  (first | ((with_reducible apply GO.atPlain); first | refine GO.ef (Ef.call (unzigzag_spec _ (readU_lt err hb)) rfl (by repeat (first | exact Ent.refl _ | refine Ent.take ?_))) (by decide) ?_ | refine GO.ef (by exact Ef.call (unzigzag_spec _ (readU_lt err hb)) rfl (by repeat (first | exact Ent.refl _ | refine Ent.take ?_))) (by decide) ?_) | ((with_reducible apply GPW.atEf); first | refine GPW.ef (Ef.call (unzigzag_spec _ (readU_lt err hb)) rfl (by repeat (first | exact Ent.refl _ | refine Ent.take ?_))) (by decide) ?_ | refine GPW.ef (by exact Ef.call (unzigzag_spec _ (readU_lt err hb)) rfl (by repeat (first | exact Ent.refl _ | refine Ent.take ?_))) (by decide) ?_))
  rintro _ _ ⟨_, ⟨rfl, rfl⟩, hL⟩
  simp only [List.cons_append, List.nil_append] at hL; subst hL
  repeat (first | refine run ?_ | intro _)
  exact KX.ends (by first | exact ResOk.tmps rfl | (repeat (first | exact ResOk.nil | refine ResOk.tmp rfl ?_ | refine ResOk.cell rfl (by rfl) ?_ | refine ResOk.cell1 rfl ?_))) (Ent.refl _) ⟨rfl, rfl⟩
theorem rEnd_spec {L : List HP} (b : Nat) (rest : List Int) (err : Int) :
    Tri Try.prog 40 #[.pointer (some ⟨b, 0, none⟩)] (RdR b rest err :: L) (fun v L' => v = .int .i64 (if err ≠ 0 then err else if rest = [] then 0 else 2) ∧ L' = RdR b rest err :: L) := by
  refine Tri.body (args := [.pointer (some ⟨b, 0, none⟩)]) 18 en40 Try.func40 rfl rfl rfl (by simp) ?_
  refine G.openX (f := fun x => rdL b rest err x []) ?_
  intro x
  simp only [List.cons_append, List.nil_append]
  refine G.pureE ?_
  intro hcap
  by_cases he : err = 0
  case neg =>
    repeat (first | refine run ?_ | intro _)
    exact KX.ends (by first | exact ResOk.tmps rfl | (repeat (first | exact ResOk.nil | refine ResOk.tmp rfl ?_ | refine ResOk.cell rfl (by rfl) ?_ | refine ResOk.cell1 rfl ?_))) (rdClose x hcap) ⟨by simp [he, resV], rfl⟩
  cases rest with
  | nil =>
    repeat (first | refine run ?_ | intro _)
    exact KX.ends (by first | exact ResOk.tmps rfl | (repeat (first | exact ResOk.nil | refine ResOk.tmp rfl ?_ | refine ResOk.cell rfl (by rfl) ?_ | refine ResOk.cell1 rfl ?_))) (rdClose x hcap) ⟨by simp [he, resV], rfl⟩
  | cons y t =>
    have hll : (y :: t).length = t.length + 1 := rfl
    repeat (first | refine run ?_ | intro _)
    exact KX.ends (by first | exact ResOk.tmps rfl | (repeat (first | exact ResOk.nil | refine ResOk.tmp rfl ?_ | refine ResOk.cell rfl (by rfl) ?_ | refine ResOk.cell1 rfl ?_))) (rdClose x hcap) ⟨by simp [he, resV], rfl⟩
/-- Reading a slice of bytes, after errors too. -/
def readR (rest : List Int) (err : Int) : List Int × List Int × Int := if (readU rest err).2.2 ≠ 0 then ([], (readU rest err).2.1, (readU rest err).2.2) else if (readU rest err).2.1.length < (readU rest err).1 then ([], (readU rest err).2.1, 3) else ((readU rest err).2.1.take (readU rest err).1, (readU rest err).2.1.drop (readU rest err).1, 0)
set_option maxHeartbeats 1000000 in
theorem list_spec {L : List HP} (b : Nat) (rest : List Int) (err : Int) (hb : ByteL rest) (hm : rest.length ≤ 1000000) :
    Tri Try.prog 59 #[.pointer (some ⟨b, 0, none⟩), .func (.func 60) #[.pointer (some ⟨b, 0, none⟩)] #[]] (RdR b rest err :: L)
      (fun v L' => ∃ ad cap, v = .slice ad (readR rest err).1.length cap ∧ (readR rest err).1.length ≤ cap ∧ L' = osl (encI .u8) 1 5 ad cap (readR rest err).1 :: RdR b (readR rest err).2.1 (readR rest err).2.2 :: L) := by
  have hul := readU_lt err hb
  have hub := readU_byte err hb
  have hull := readU_len rest err
  refine Tri.body (args := [.pointer (some ⟨b, 0, none⟩), .func (.func 60) #[.pointer (some ⟨b, 0, none⟩)] #[]]) 44 en59 Try.func59 rfl rfl rfl (by simp) ?_
  repeat (first | refine run ?_ | intro _)
  (first | ((with_reducible apply GO.atPlain); first | refine GO.ef (Ef.callAt (rUint_spec b rest err hb) rfl) (by decide) ?_ | refine GO.ef (by exact Ef.callAt (rUint_spec b rest err hb) rfl) (by decide) ?_) | ((with_reducible apply GPW.atEf); first | refine GPW.ef (Ef.callAt (rUint_spec b rest err hb) rfl) (by decide) ?_ | refine GPW.ef (by exact Ef.callAt (rUint_spec b rest err hb) rfl) (by decide) ?_))
  rintro _ _ ⟨rfl, rfl⟩
  have hR : readR rest err = if (readU rest err).2.2 ≠ 0 then ([], (readU rest err).2.1, (readU rest err).2.2) else if (readU rest err).2.1.length < (readU rest err).1 then ([], (readU rest err).2.1, 3) else ((readU rest err).2.1.take (readU rest err).1, (readU rest err).2.1.drop (readU rest err).1, 0) := rfl
  generalize readR rest err = RR at hR
  generalize readU rest err = RU at hul hub hull hR
  obtain ⟨n, l, e⟩ := RU
  simp only [] at hul hub hull hR ⊢
  refine GO.openX (f := fun x => rdL b l e x []) ?_
  intro x
  simp only [List.cons_append, List.nil_append]
  refine GO.pureE ?_
  intro hcap
  by_cases he : e = 0
  case neg =>
    rw [if_pos he] at hR
    subst hR
    repeat (first | refine run ?_ | intro _)
    exact KX.ends (by first | exact ResOk.tmps rfl | (repeat (first | exact ResOk.nil | refine ResOk.tmp rfl ?_ | refine ResOk.cell rfl (by rfl) ?_ | refine ResOk.cell1 rfl ?_))) ((Ent.nilSl (encI .u8) 1 5).trans (Ent.consR (rdClose x hcap))) ⟨none, 0, rfl, by simp, rfl⟩
  subst he
  rw [if_neg (by simp)] at hR
  by_cases hlt : l.length < n
  · rw [if_pos hlt] at hR
    subst hR
    repeat (first | refine run ?_ | intro _)
    exact KX.ends (by first | exact ResOk.tmps rfl | (repeat (first | exact ResOk.nil | refine ResOk.tmp rfl ?_ | refine ResOk.cell rfl (by rfl) ?_ | refine ResOk.cell1 rfl ?_))) ((Ent.nilSl (encI .u8) 1 5).trans (Ent.consR (rdClose x hcap))) ⟨none, 0, rfl, by simp, rfl⟩
  rw [if_neg hlt] at hR
  subst hR
  repeat (first | refine run ?_ | intro _)
  (first | ((with_reducible apply GO.atPlain); first | refine GO.ef (Ef.make0 (encI .u8) rfl rfl (by omega) (by omega) (by omega)) (by decide) ?_ | refine GO.ef (by exact Ef.make0 (encI .u8) rfl rfl (by omega) (by omega) (by omega)) (by decide) ?_) | ((with_reducible apply GPW.atEf); first | refine GPW.ef (Ef.make0 (encI .u8) rfl rfl (by omega) (by omega) (by omega)) (by decide) ?_ | refine GPW.ef (by exact Ef.make0 (encI .u8) rfl rfl (by omega) (by omega) (by omega)) (by decide) ?_) | ((with_reducible apply GO.atUnit); first | refine GO.efu (Ef.make0 (encI .u8) rfl rfl (by omega) (by omega) (by omega)) ?_ | refine GO.efu (by exact Ef.make0 (encI .u8) rfl rfl (by omega) (by omega) (by omega)) ?_) | ((with_reducible apply GPW.atEfu); first | refine GPW.efu (Ef.make0 (encI .u8) rfl rfl (by omega) (by omega) (by omega)) ?_ | refine GPW.efu (by exact Ef.make0 (encI .u8) rfl rfl (by omega) (by omega) (by omega)) ?_))
  rintro _ _ ⟨mb, rfl, rfl⟩
  repeat (first | refine run ?_ | intro _)
  refine G.loop (α := Nat × SlV) (fun g => g.1 ≤ n) (fun g => [(0, .pointer (some ⟨b, 0, none⟩)), (1, .func (.func 60) #[.pointer (some ⟨b, 0, none⟩)] #[]), (6, .slice g.2.ad (l.take g.1).length g.2.cap), (29, .int .i64 (n : Int)), (30, .int .i64 (g.1 : Int))]) (fun g => osl (encI .u8) 1 5 g.2.ad g.2.cap (l.take g.1) :: RdR b (l.drop g.1) 0 :: L) (fun g => n - g.1) (0, ⟨some ⟨mb, 0, none⟩, 0, (n : Int).toNat⟩) (Nat.zero_le _) (by repeat (first | exact EnvSub.nil _ | refine EnvSub.cons rfl ?_)) (Ent.consR (rdClose x hcap)) ?_
  rintro ⟨i, y⟩ hi
  simp only [] at hi ⊢
  have htl : (l.take i).length = i := by rw [List.length_take]; omega
  by_cases hin : i < n
  case neg =>
    have : i = n := by omega
    subst this
    refine G.fact (osl_cap (ad := y.ad)) ?_
    rintro ⟨hcp, _⟩
    repeat (first | refine run ?_ | intro _)
    exact KX.ends (by first | exact ResOk.tmps rfl | (repeat (first | exact ResOk.nil | refine ResOk.tmp rfl ?_ | refine ResOk.cell rfl (by rfl) ?_ | refine ResOk.cell1 rfl ?_))) (Ent.refl _) ⟨y.ad, y.cap, rfl, hcp, rfl⟩
  have hdr : l.drop i = l[i] :: l.drop (i + 1) := List.drop_eq_getElem_cons (by omega)
  rw [hdr]
  repeat (first | refine run ?_ | intro _)
  (first | ((with_reducible apply GO.atPlain); first | refine GO.ef (Ef.callFn (vs := []) (first := [.pointer (some ⟨b, 0, none⟩)]) (cap := []) (octet_spec (L := []) b (l[i] :: l.drop (i + 1)) 0) rfl rfl (Ent.perm (List.Perm.swap _ _ _))) (by decide) ?_ | refine GO.ef (by exact Ef.callFn (vs := []) (first := [.pointer (some ⟨b, 0, none⟩)]) (cap := []) (octet_spec (L := []) b (l[i] :: l.drop (i + 1)) 0) rfl rfl (Ent.perm (List.Perm.swap _ _ _))) (by decide) ?_) | ((with_reducible apply GPW.atEf); first | refine GPW.ef (Ef.callFn (vs := []) (first := [.pointer (some ⟨b, 0, none⟩)]) (cap := []) (octet_spec (L := []) b (l[i] :: l.drop (i + 1)) 0) rfl rfl (Ent.perm (List.Perm.swap _ _ _))) (by decide) ?_ | refine GPW.ef (by exact Ef.callFn (vs := []) (first := [.pointer (some ⟨b, 0, none⟩)]) (cap := []) (octet_spec (L := []) b (l[i] :: l.drop (i + 1)) 0) rfl rfl (Ent.perm (List.Perm.swap _ _ _))) (by decide) ?_) | ((with_reducible apply GO.atUnit); first | refine GO.efu (Ef.callFn (vs := []) (first := [.pointer (some ⟨b, 0, none⟩)]) (cap := []) (octet_spec (L := []) b (l[i] :: l.drop (i + 1)) 0) rfl rfl (Ent.perm (List.Perm.swap _ _ _))) ?_ | refine GO.efu (by exact Ef.callFn (vs := []) (first := [.pointer (some ⟨b, 0, none⟩)]) (cap := []) (octet_spec (L := []) b (l[i] :: l.drop (i + 1)) 0) rfl rfl (Ent.perm (List.Perm.swap _ _ _))) ?_) | ((with_reducible apply GPW.atEfu); first | refine GPW.efu (Ef.callFn (vs := []) (first := [.pointer (some ⟨b, 0, none⟩)]) (cap := []) (octet_spec (L := []) b (l[i] :: l.drop (i + 1)) 0) rfl rfl (Ent.perm (List.Perm.swap _ _ _))) ?_ | refine GPW.efu (by exact Ef.callFn (vs := []) (first := [.pointer (some ⟨b, 0, none⟩)]) (cap := []) (octet_spec (L := []) b (l[i] :: l.drop (i + 1)) 0) rfl rfl (Ent.perm (List.Perm.swap _ _ _))) ?_))
  rintro _ _ ⟨_, ⟨rfl, rfl⟩, hL⟩
  simp only [List.cons_append, List.nil_append] at hL; subst hL
  rw [show oct (l[i] :: l.drop (i + 1)) 0 = (l[i], l.drop (i + 1), 0) by simp [oct]]
  repeat (first | refine run ?_ | intro _)
  (first | ((with_reducible apply GO.atPlain); first | refine GO.ef (Ef.append1 (e := l[i]) rfl rfl rfl rfl rfl (by rfl) (encI_one _ _) (by omega) (by omega)) (by decide) ?_ | refine GO.ef (by exact Ef.append1 (e := l[i]) rfl rfl rfl rfl rfl (by rfl) (encI_one _ _) (by omega) (by omega)) (by decide) ?_) | ((with_reducible apply GPW.atEf); first | refine GPW.ef (Ef.append1 (e := l[i]) rfl rfl rfl rfl rfl (by rfl) (encI_one _ _) (by omega) (by omega)) (by decide) ?_ | refine GPW.ef (by exact Ef.append1 (e := l[i]) rfl rfl rfl rfl rfl (by rfl) (encI_one _ _) (by omega) (by omega)) (by decide) ?_) | ((with_reducible apply GO.atUnit); first | refine GO.efu (Ef.append1 (e := l[i]) rfl rfl rfl rfl rfl (by rfl) (encI_one _ _) (by omega) (by omega)) ?_ | refine GO.efu (by exact Ef.append1 (e := l[i]) rfl rfl rfl rfl rfl (by rfl) (encI_one _ _) (by omega) (by omega)) ?_) | ((with_reducible apply GPW.atEfu); first | refine GPW.efu (Ef.append1 (e := l[i]) rfl rfl rfl rfl rfl (by rfl) (encI_one _ _) (by omega) (by omega)) ?_ | refine GPW.efu (by exact Ef.append1 (e := l[i]) rfl rfl rfl rfl rfl (by rfl) (encI_one _ _) (by omega) (by omega)) ?_))
  rintro _ _ ⟨ad2, cap2, rfl, rfl⟩
  rw [← List.take_succ_eq_append_getElem (show i < l.length by omega)]
  repeat (first | refine run ?_ | intro _)
  refine GO.ent (Ent.at (A := RdR b (l.drop (i + 1)) 0) (Ent.refl _)) ?_
  refine GO.openX (f := fun x => rdL b (l.drop (i + 1)) 0 x []) ?_
  intro x2
  simp only [List.cons_append, List.nil_append]
  refine GO.pureE ?_
  intro hcap2
  repeat (first | refine run ?_ | intro _)
  refine ⟨(i + 1, ⟨ad2, 0, cap2⟩), by simp only []; omega, by simp only []; omega, ?_, ?_⟩
  · simp only []
    rw [show (((i + 1 : Nat)) : Int) = (i : Int) + 1 by omega]
    exact (by repeat (first | exact EnvSub.nil _ | refine EnvSub.cons rfl ?_))
  · simp only []
    refine (rdClose x2 hcap2).trans ?_
    repeat (first | exact Ent.refl _ | exact Ent.nil _ | refine Ent.take' ?_ | refine Ent.trans Ent.drop ?_)
theorem rRaw_spec {L : List HP} (b : Nat) (rest : List Int) (err : Int) (hb : ByteL rest) (hm : rest.length ≤ 1000000) :
    Tri Try.prog 36 #[.pointer (some ⟨b, 0, none⟩)] (RdR b rest err :: L)
      (fun v L' => ∃ ad cap, v = .slice ad (readR rest err).1.length cap ∧ (readR rest err).1.length ≤ cap ∧ L' = osl (encI .u8) 1 5 ad cap (readR rest err).1 :: RdR b (readR rest err).2.1 (readR rest err).2.2 :: L) := by
  refine Tri.body (args := [.pointer (some ⟨b, 0, none⟩)]) 7 en36 Try.func36 rfl rfl rfl (by simp) ?_
  repeat (first | refine run ?_ | intro _)
  (first | ((with_reducible apply GO.atPlain); first | refine GO.ev (Ev.makeFunc (vs := [.pointer (some ⟨b, 0, none⟩)]) (us := []) rfl rfl) (by decide) ?_ | refine GO.ev (by exact Ev.makeFunc (vs := [.pointer (some ⟨b, 0, none⟩)]) (us := []) rfl rfl) (by decide) ?_) | ((with_reducible apply GPW.atEv); first | refine GPW.evP (Ev.makeFunc (vs := [.pointer (some ⟨b, 0, none⟩)]) (us := []) rfl rfl) (by decide) ?_ | refine GPW.evP (by exact Ev.makeFunc (vs := [.pointer (some ⟨b, 0, none⟩)]) (us := []) rfl rfl) (by decide) ?_) | ((with_reducible apply GPW.atEv); first | refine GPW.evL (Ev.makeFunc (vs := [.pointer (some ⟨b, 0, none⟩)]) (us := []) rfl rfl) (by decide) ?_ | refine GPW.evL (by exact Ev.makeFunc (vs := [.pointer (some ⟨b, 0, none⟩)]) (us := []) rfl rfl) (by decide) ?_))
  repeat (first | refine run ?_ | intro _)
  (first | ((with_reducible apply GO.atPlain); first | refine GO.ef (Ef.callAt (list_spec b rest err hb hm) rfl) (by decide) ?_ | refine GO.ef (by exact Ef.callAt (list_spec b rest err hb hm) rfl) (by decide) ?_) | ((with_reducible apply GPW.atEf); first | refine GPW.ef (Ef.callAt (list_spec b rest err hb hm) rfl) (by decide) ?_ | refine GPW.ef (by exact Ef.callAt (list_spec b rest err hb hm) rfl) (by decide) ?_))
  rintro _ _ ⟨ad, cap, rfl, hc, rfl⟩
  repeat (first | refine run ?_ | intro _)
  exact KX.ends (by first | exact ResOk.tmps rfl | (repeat (first | exact ResOk.nil | refine ResOk.tmp rfl ?_ | refine ResOk.cell rfl (by rfl) ?_ | refine ResOk.cell1 rfl ?_))) (Ent.refl _) ⟨ad, cap, rfl, hc, rfl⟩
end Go.Proofs.Ytnpienjfapjjoaa
