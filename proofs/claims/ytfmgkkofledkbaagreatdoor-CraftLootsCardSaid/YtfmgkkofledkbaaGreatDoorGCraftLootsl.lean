/- Lemmas and contracts of functions, in the order: V25, P1, H1, P4, D0, D1. -/
import Derived.Test.YtfmgkkofledkbaaGreatDoorGCraftLootsd
import Derived.Test.YtfmgkkofledkbaaGreatDoorGCraftLootsb
import Derived.Test.YtfmgkkofledkbaaGreatDoorGCraftLootsf
namespace Go.V
section fv
variable {P : Program} {N : Nat} {env : Env} {L : List HP} {K : Post} {ty : TypeId}
/-- An iterator: it hands yield these values, in this order, until yield says no; what it works on is Lg before, Ln behind it, and Lx k if it was stopped in round k. -/
def IterY (P : Program) (gf : FuncId) (cap : List Value) (vals : List (List Value)) (Lg Ln : List HP) (Lx : Nat → List HP) : Prop :=
  ∀ (l : Nat) (J Jx : Nat → HP), (∀ k (hk : k < vals.length), YTri P l vals[k] [J k] (fun v L' => (v = .bool true ∧ L' = [J (k + 1)]) ∨ (v = .bool false ∧ L' = [Jx k]))) →
    Tri P gf (.func (.yield l) #[] #[] :: cap).toArray (J 0 :: Lg) (fun _ L' => L' = J vals.length :: Ln ∨ ∃ k, L' = Jx k :: Lx k)
/-- 'for .. := range g { .. }'. -/
theorem G.rangeFuncY {g : Operand} {ps : Array Tmp} {assign body : Code} {gf : FuncId} {cap : List Value} {vals : List (List Value)} {Lg Ln : List HP} {Lx : Nat → List HP} (it : IterY P gf cap vals Lg Ln Lx) (hg : evE env g = some (.func (.func gf) #[] cap.toArray))
    (hen : Enters P gf) (hps : ∀ p ∈ ps, p < N) (hlen : ∀ vs ∈ vals, vs.length = ps.size) (I : Nat → List HP) (hl : Ent L (I 0 ++ Lg))
    (hbody : ∀ k (hk : k < vals.length), G P N assign (penv env (ps.toList.zip vals[k])) (I k) (Post.seq (fun env' L' => G P N body env' L' (RPost K env (Lx k) (I (k + 1)))) (fun _ _ _ => False)))
    (hdone : K .normal env (I vals.length ++ Ln)) : G P N (.rangeFunc g ps assign body) env L K := by
  intro r θ Y a w hr i
  obtain ⟨M, ea, hm, s⟩ := i
  have s0 : Sat θ (I 0 ++ Lg ++ (mkH M ++ Y)) w := hl θ _ w s
  -- what is the same in both cases
  have main : ∀ (fn : FuncId) (l D : Nat) (mark : List Nat) (w₁ : World), (Instr.enterLoop fn a.tmps ps assign body r).run P w = .ok (l, mkD mark) w₁ →
      Sat θ (own l (.loop { state := .ready, pending := none, fn, tmps := a.tmps, params := ps, assign, body, defers := D }) :: (mkH mark ++ (I 0 ++ Lg ++ (mkH M ++ Y)))) w₁ →
      ∃ (l : Nat) (mark : List Deferred) (w₁ : World) (d : Deferred) (w₁' : World) (f : FuncId) (args : Array Value) (w₂ : World),
      (Instr.enterLoop fn a.tmps ps assign body (FW r).round).run P w = .ok (l, mark) w₁ ∧
      (resolve a.eval (rangeCall g l) 0).run P w₁ = .ok d w₁' ∧
      (∀ f', Target.leads P w₁' d.target d.args = some f' → (FW r).fn f') ∧
      (invoke d.target d.args).run P w₁' = .ok (.enter f args) w₂ ∧
      ((FW r).depth.isSome = true → 1 ≤ 0) ∧
      CallsIn (FW r) (0 - 1) P f args w₂ (rangePost (FW r) 0 P l (QK θ Y N K) { a with defers := mark ++ a.defers }) := by
    intro fn l D mark w₁ he s1
    obtain ⟨rec, hrec⟩ : ∃ rec : Loop, rec = { state := .ready, pending := none, fn, tmps := a.tmps, params := ps, assign, body, defers := D } := ⟨_, rfl⟩
    rw [← hrec] at s1
    have hst : rec.state = .ready := by rw [hrec]
    have hpe : rec.pending = none := by rw [hrec]
    have hy : ∀ k (hk : k < vals.length), YTri P l vals[k] [hstars (own l (.loop rec) :: I k)] (fun v L' => (v = .bool true ∧ L' = [hstars (own l (.loop rec) :: I (k + 1))]) ∨ (v = .bool false ∧ L' = [hex fun x : Code × List HP => hstars (hpure (JumpOk K env (Lx k) x.1 x.2) :: own l (.loop { rec with state := .done, pending := some x.1 }) :: x.2)])) := by
      intro k hk
      refine round_ytri hst hpe (by rw [hrec]; exact hlen _ (List.getElem_mem _)) (by rw [hrec]; exact hps) (env := env) ?_ ?_
      · rw [hrec]; exact ⟨ea.size, ea.at_⟩
      · rw [hrec]; exact hbody k hk
    have ht := it l (fun k => hstars (own l (.loop rec) :: I k)) (fun k => hex fun x : Code × List HP => hstars (hpure (JumpOk K env (Lx k) x.1 x.2) :: own l (.loop { rec with state := .done, pending := some x.1 }) :: x.2)) hy
    have hga : a.eval g = .func (.func gf) #[] cap.toArray := evE_ok ea.agr hg
    refine ⟨l, mkD mark, w₁, { target := .fn (.func gf) cap.toArray, args := #[.func (.yield l) #[] #[]] }, w₁, gf, (.func (.yield l) #[] #[] :: cap).toArray, w₁, he, ?_, fun _ _ => trivial, ?_, (fun h => by cases h), callsIn_FW ?_⟩
    · simp only [resolve, Deferred.ofValue, hga]
      simp [Act.eval]
    · have := hen (.func (.yield l) #[] #[] :: cap).toArray w₁
      simpa [invoke] using this
    have s2 : Sat θ (hstars (own l (.loop rec) :: I 0) :: Lg ++ (mkH mark ++ (mkH M ++ Y))) w₁ := by
      refine Sat.toStars (A := own l (.loop rec) :: I 0) (s1.perm ?_)
      simp only [List.cons_append]
      refine List.Perm.cons _ ?_
      rw [List.append_assoc]
      refine perm_front.trans ?_
      refine List.Perm.append_left _ ?_
      exact perm_front
    refine (ht.calls θ _ w₁ s2).mono ?_
    rintro e w₂ ⟨v, L', rfl, hL', s3⟩
    rcases hL' with rfl | ⟨k, rfl⟩
    · have s4 : Sat θ (own l (.loop rec) :: (I vals.length ++ (Ln ++ (mkH mark ++ (mkH M ++ Y))))) w₂ := Sat.ofStars (A := own l (.loop rec) :: I vals.length) s3
      have hh := s4.own_heap
      refine ⟨none, _, (by rw [← hpe]; exact endLoop_run hh (by rw [hst]; simp)), ?_⟩
      have s5 := (Sat.setLoop (rec' := { rec with state := .exhausted }) s4).tail
      refine ⟨env, I vals.length ++ Ln, ⟨mark ++ M, ⟨ea.size, ea.at_⟩, by simp [mkD, hm], ?_⟩, hdone⟩
      have e : mkH (mark ++ M) ++ Y = mkH mark ++ (mkH M ++ Y) := by simp [mkH]
      rw [e, List.append_assoc]
      exact s5
    · obtain ⟨⟨c, L₂⟩, s4⟩ := Sat.ofHex (L := Lx k ++ (mkH mark ++ (mkH M ++ Y))) s3
      have s5 : Sat θ (hpure (JumpOk K env (Lx k) c L₂) :: (own l (.loop { rec with state := .done, pending := some c }) :: (L₂ ++ (Lx k ++ (mkH mark ++ (mkH M ++ Y)))))) w₂ := Sat.ofStars (A := hpure (JumpOk K env (Lx k) c L₂) :: own l (.loop { rec with state := .done, pending := some c }) :: L₂) s4
      have hj := s5.ofPure
      have s6 := s5.tail
      have hh := s6.own_heap
      have s7 := (Sat.setLoop (rec' := { ({ rec with state := .done, pending := some c } : Loop) with state := .exhausted }) s6).tail
      refine ⟨some c, _, endLoop_run hh (by simp), ?_⟩
      have hat : At N env (L₂ ++ Lx k) θ Y { a with defers := mkD mark ++ a.defers } { w₂ with heap := w₂.heap.setIfInBounds l (.loop { ({ rec with state := .done, pending := some c } : Loop) with state := .exhausted }) } := by
        refine ⟨mark ++ M, ⟨ea.size, ea.at_⟩, by simp [mkD, hm], ?_⟩
        have e : mkH (mark ++ M) ++ Y = mkH mark ++ (mkH M ++ Y) := by simp [mkH]
        rw [e, List.append_assoc]
        exact s7
      cases c with
      | ret => exact wpIn_ret ⟨env, _, hat, hj⟩
      | exit id => exact wpIn_exit ⟨env, _, hat, hj⟩
      | _ => exact hj.elim
  refine wpIn_rangeFunc fun fn _ => ?_
  cases r with
  | none =>
    have s1 := s0.alloc (o := .deferred (some []))
    have s2 := s1.alloc (o := .loop { state := .ready, pending := none, fn, tmps := a.tmps, params := ps, assign, body, defers := w.heap.size })
    refine main fn (w.heap.size + 1) w.heap.size [w.heap.size] _ run_enterLoop_none ?_
    rw [World.size_alloc] at s2
    exact s2
  | some l =>
    obtain ⟨rec, Y', hY⟩ := hr l rfl
    have hl0 : w.heap[l]? = some (.loop rec) := by
      have s1 : Sat θ (own l (.loop rec) :: (I 0 ++ Lg ++ (mkH M ++ Y'))) w := s0.perm (by
        have h1 : (I 0 ++ Lg ++ (mkH M ++ Y)).Perm (I 0 ++ Lg ++ (mkH M ++ (own l (.loop rec) :: Y'))) := (hY.append_left _).append_left _
        refine h1.trans ?_
        rw [← List.append_assoc, ← List.append_assoc (I 0 ++ Lg)]
        exact List.perm_middle)
      exact s1.own_heap
    exact main fn w.heap.size rec.defers [] _ (run_enterLoop_some hl0) s0.alloc
end fv
end Go.V

namespace Go.Proofs.YtfmgkkofledkbaaGreatDoor
open Go.V
def fac : Nat := 11400714819323198485
def mixN (s w : Nat) : Nat := ((s ^^^ w) * fac % 18446744073709551616) ^^^ ((s ^^^ w) * fac % 18446744073709551616 / 4294967296)
theorem xor_lt64 {a b : Nat} (ha : a < 18446744073709551616) (hb : b < 18446744073709551616) : a ^^^ b < 18446744073709551616 := Nat.xor_lt_two_pow (n := 64) (by omega) (by omega)
theorem mixN_lt (s w : Nat) : mixN s w < 18446744073709551616 := xor_lt64 (Nat.mod_lt _ (by decide)) (by have := Nat.mod_lt ((s ^^^ w) * fac) (show 0 < 18446744073709551616 by decide); omega)
/-- Bytes as a number, the lowest first. -/
def wordOf : List Int → Nat
  | [] => 0
  | b :: t => b.toNat + 256 * wordOf t
abbrev ByteL (l : List Int) : Prop := ∀ x ∈ l, 0 ≤ x ∧ x ≤ 255
theorem wordOf_lt : ∀ {l : List Int}, ByteL l → wordOf l < 256 ^ l.length
  | [], _ => by simp [wordOf]
  | b :: t, h => by
    have h1 := h b (by simp)
    have h2 := wordOf_lt (fun x hx => h x (List.mem_cons_of_mem _ hx) : ByteL t)
    simp only [wordOf, List.length_cons, Nat.pow_succ]
    omega
theorem wordOf_snoc : ∀ (l : List Int) (c : Int), wordOf (l ++ [c]) = wordOf l + c.toNat * 256 ^ l.length
  | [], c => by simp [wordOf]
  | b :: t, c => by
    simp only [List.cons_append, wordOf, wordOf_snoc t c, List.length_cons, Nat.pow_succ]
    rw [Nat.mul_add, Nat.add_assoc]
    congr 2
    rw [Nat.mul_comm 256 (c.toNat * 256 ^ t.length), Nat.mul_assoc]
def chunk (b : List Int) (k : Nat) : List Int := (b.drop (8 * k)).take 8
def nWords (n : Nat) : Nat := (n + 7) / 8
def wordsN (b : List Int) : List Nat := (List.range (nWords b.length)).map fun k => wordOf (chunk b k)
theorem wordsN_len (b : List Int) : (wordsN b).length = nWords b.length := by simp [wordsN]
theorem wordsN_get (b : List Int) {k : Nat} (h : k < nWords b.length) : (wordsN b)[k]'(by rw [wordsN_len]; exact h) = wordOf (chunk b k) := by simp [wordsN]
theorem chunk_byte {b : List Int} (h : ByteL b) (k : Nat) : ByteL (chunk b k) := fun x hx => h x (List.mem_of_mem_drop (List.mem_of_mem_take hx))
theorem chunk_len (b : List Int) (k : Nat) : (chunk b k).length = min 8 (b.length - 8 * k) := by simp [chunk]
theorem wordOf_lt64 {l : List Int} (h : ByteL l) (hl : l.length ≤ 8) : wordOf l < 18446744073709551616 := by
  have h1 := wordOf_lt h
  have h2 : 256 ^ l.length ≤ 256 ^ 8 := Nat.pow_le_pow_right (by decide) hl
  have h3 : (256 : Nat) ^ 8 = 18446744073709551616 := by decide
  omega
theorem wordsN_lt {b : List Int} (h : ByteL b) : ∀ w ∈ wordsN b, w < 18446744073709551616 := by
  intro w hw
  simp only [wordsN, List.mem_map] at hw
  obtain ⟨k, _, rfl⟩ := hw
  exact wordOf_lt64 (chunk_byte h k) (by rw [chunk_len]; omega)
/-- The hash of words under a label. -/
def sumN (label : List Int) (l : List Nat) : Nat := mixN (l.foldl mixN (mixN (mixN ((wordsN label).foldl mixN 0) label.length) l.length)) 0
def bytesH (label b : List Int) : Nat := sumN label (wordsN b ++ [b.length])
/-- One byte more in a word. -/
theorem or_step {a c i : Nat} (ha : a < 256 ^ i) (hc : c ≤ 255) (hi : i < 8) : a ||| (c * 2 ^ (8 * i) % 18446744073709551616) = a + c * 256 ^ i := by
  have e : (2 : Nat) ^ (8 * i) = 256 ^ i := by rw [Nat.pow_mul]
  have hlt : c * 256 ^ i < 18446744073709551616 := by
    have h1 : (256 : Nat) ^ i ≤ 256 ^ 7 := Nat.pow_le_pow_right (by decide) (by omega)
    have h2 : (256 : Nat) ^ 7 = 72057594037927936 := by decide
    have h3 : c * 256 ^ i ≤ 255 * 256 ^ i := Nat.mul_le_mul_right _ hc
    omega
  rw [e, Nat.mod_eq_of_lt hlt, Nat.or_comm, nat_join (8 * i) (c * 256 ^ i) a (by rw [e]; exact Nat.mul_mod_left _ _) (by rw [e]; exact ha), Nat.add_comm]
theorem foldl_mixN_lt (l : List Nat) {s : Nat} (h : s < 18446744073709551616) : l.foldl mixN s < 18446744073709551616 := by
  induction l generalizing s with
  | nil => exact h
  | cons x l ih => exact ih (mixN_lt _ _)
end Go.Proofs.YtfmgkkofledkbaaGreatDoor

namespace Go.Proofs.YtfmgkkofledkbaaGreatDoor
open Go.V
attribute [local irreducible] G GO GP GPW GPK Ev Ef EfR Ent CB GB
theorem mix_spec (s w : Nat) (hs : s < 18446744073709551616) (hw : w < 18446744073709551616) :
    Tri Tryz.prog 160 #[.int .u64 s, .int .u64 w] [] (fun v L => v = .int .u64 (mixN s w) ∧ L = []) := by
  refine Tri.body (args := [.int .u64 (s : Int), .int .u64 (w : Int)]) 14 en160 Tryz.func160 rfl rfl rfl (by simp) ?_
  repeat (first | refine run ?_ | intro _)
  refine GO.ev (Ev.xor64 rfl rfl (by omega) (by omega) (by omega) (by omega)) (by decide) ?_
  rw [Int.toNat_natCast, Int.toNat_natCast]
  have hx := xor_lt64 hs hw
  have e1 : IntKind.u64.wrap (((s ^^^ w : Nat) : Int) * 11400714819323198485) = (((s ^^^ w) * fac % 18446744073709551616 : Nat) : Int) := by
    rw [IntKind.wrap_u64]
    simp [fac]
  refine GO.ev (Ev.mulw rfl rfl) (by decide) ?_
  rw [e1]
  have hm := Nat.mod_lt ((s ^^^ w) * fac) (show 0 < 18446744073709551616 by decide)
  obtain ⟨m, hmm⟩ : ∃ m : Nat, (s ^^^ w) * fac % 18446744073709551616 = m := ⟨_, rfl⟩
  rw [hmm] at hm ⊢
  repeat (first | refine run ?_ | intro _)
  refine GO.ev (Ev.shr rfl rfl (by decide)) (by decide) ?_
  have e2 : ((m : Nat) : Int).fdiv (2 ^ min ((32 : Int).toNat) IntKind.u64.bits) = ((m / 4294967296 : Nat) : Int) := by
    rw [Int.fdiv_eq_ediv_of_nonneg _ (by decide)]
    simp [IntKind.bits]
  rw [e2]
  refine GO.ev (Ev.xor64 rfl rfl (by omega) (by omega) (by omega) (by omega)) (by decide) ?_
  rw [Int.toNat_natCast, Int.toNat_natCast]
  repeat (first | refine run ?_ | intro _)
  exact KX.ends (by exact ResOk.tmps rfl) (Ent.refl _) ⟨by simp only [resV, mixN, hmm], rfl⟩
theorem words_iter {L0 : List HP} (bx : Nat) (ad : Option Addr) (c : Nat) (b : List Int) [hrd : Rds L0 ad Int (encZ .u8) 1 b] (hb : ByteL b) (hc : b.length ≤ c) (hm : b.length ≤ 1000000000) :
    Iter Tryz.prog 159 [.pointer (some ⟨bx, 0, none⟩)] ((wordsN b).map fun w : Nat => [.int .u64 (w : Int)]) (obj bx 48 [.slice ad b.length c] :: L0) := by
  intro l J Jx hy
  have hy' : ∀ k, k < nWords b.length → YTri Tryz.prog l [.int .u64 (wordOf (chunk b k) : Int)] [J k] (fun v L' => (v = .bool true ∧ L' = [J (k + 1)]) ∨ (v = .bool false ∧ L' = [Jx k])) := by
    intro k hk
    have h := hy k (by rw [List.length_map, wordsN_len]; exact hk)
    simp only [List.getElem_map] at h
    rw [wordsN_get b hk] at h
    exact h
  rw [List.length_map, wordsN_len]
  clear hy
  refine Tri.body (args := [.func (.yield l) #[] #[], .pointer (some ⟨bx, 0, none⟩)]) 39 en159 Tryz.func159 rfl rfl rfl (by simp) ?_
  repeat (first | refine run ?_ | intro _)
  refine G.loop (α := Nat) (fun k => k ≤ nWords b.length) (fun k => [(0, .func (.yield l) #[] #[]), (1, .pointer (some ⟨bx, 0, none⟩)), (3, .int .i64 ((8 * k : Nat) : Int))]) (fun k => J k :: obj bx 48 [.slice ad b.length c] :: L0) (fun k => nWords b.length - k) 0 (Nat.zero_le _) (by repeat (first | exact EnvSub.nil _ | refine EnvSub.cons rfl ?_)) (Ent.refl _) ?_
  intro k hk
  have hnw : nWords b.length = (b.length + 7) / 8 := rfl
  by_cases hlt : 8 * k < b.length
  case neg =>
    have hkn : k = nWords b.length := by omega
    repeat (first | refine run ?_ | intro _)
    refine KX.endsN (by exact ResOk.tmps rfl) (Ent.refl _) (.inl ?_)
    rw [hkn]
  have hk2 : k < nWords b.length := by omega
  have hcl := chunk_len b k
  have hcb := chunk_byte hb k
  have hrd2 : Rds L0 (advA ad c 1 (8 * k)) Int (encZ .u8) 1 (b.drop (8 * k)) := Rds.drop hrd hc (8 * k)
  repeat (first | ((fail_if_success (with_reducible refine G.atSS 4 ?_)); (with_reducible apply G.seq)) | refine runS ?_ | intro _)
  refine G.join (α := Unit) (fun _ => True) (fun _ => [(0, .func (.yield l) #[] #[]), (1, .pointer (some ⟨bx, 0, none⟩)), (3, .int .i64 ((8 * k : Nat) : Int)), (4, .int .u64 (wordOf (chunk b k) : Int))]) (fun _ => J k :: obj bx 48 [.slice ad b.length c] :: L0) ?_ ?_
  · repeat (first | refine run ?_ | intro _)
    have hm2 : (min (((8 * k : Nat) : Int) + 8) (b.length : Int)).toNat - 8 * k = (chunk b k).length := by omega
    rw [Int.toNat_natCast, hm2]
    refine G.loop (α := Nat) (fun i => i ≤ (chunk b k).length) (fun i => [(0, .func (.yield l) #[] #[]), (1, .pointer (some ⟨bx, 0, none⟩)), (3, .int .i64 ((8 * k : Nat) : Int)), (4, .int .u64 (wordOf ((chunk b k).take i) : Int)), (20, .slice (advA ad c 1 (8 * k)) (chunk b k).length (c - 8 * k)), (21, .int .i64 (chunk b k).length), (22, .int .i64 (i : Int))])
      (fun _ => J k :: obj bx 48 [.slice ad b.length c] :: L0) (fun i => (chunk b k).length - i) 0 (Nat.zero_le _) (by repeat (first | exact EnvSub.nil _ | refine EnvSub.cons rfl ?_)) (Ent.refl _) ?_
    intro i hi
    by_cases hi2 : i < (chunk b k).length
    case neg =>
      have : i = (chunk b k).length := by omega
      subst this
      repeat (first | refine run ?_ | intro _)
      rw [List.take_length]
      exact ⟨(), trivial, (by repeat (first | exact EnvSub.nil _ | refine EnvSub.cons rfl ?_)), Ent.refl _⟩
    have hdl : (b.drop (8 * k)).length = b.length - 8 * k := by simp
    have hbv : (b.drop (8 * k))[i]! = (chunk b k)[i] := by
      simp only [chunk, List.getElem_take]
      rw [List.getElem!_eq_getElem?_getD, List.getElem?_eq_getElem (by omega)]
      rfl
    have hbb := hcb _ (List.getElem_mem hi2)
    have hwl := wordOf_lt (fun x hx => hcb x (List.mem_of_mem_take hx) : ByteL ((chunk b k).take i))
    rw [List.length_take, Nat.min_eq_left (by omega)] at hwl
    have hw64 : wordOf ((chunk b k).take i) < 18446744073709551616 := wordOf_lt64 (fun x hx => hcb x (List.mem_of_mem_take hx)) (by simp; omega)
    repeat (first | refine run ?_ | intro _)
    rw [Int.toNat_natCast, hbv]
    obtain ⟨cN, hcN⟩ : ∃ cN : Nat, (chunk b k)[i] = (cN : Int) := ⟨((chunk b k)[i]).toNat, by omega⟩
    have hcN2 : cN ≤ 255 := by omega
    have hword : wordOf ((chunk b k).take (i + 1)) = wordOf ((chunk b k).take i) + cN * 256 ^ i := by
      rw [List.take_succ_eq_append_getElem hi2, wordOf_snoc, hcN, List.length_take, Nat.min_eq_left (by omega)]
      rfl
    rw [hcN, IntWalk.u64_in (cN : Int) (by omega)]
    refine GO.ev (Ev.shl rfl rfl (by omega)) (by decide) ?_
    have e1 : IntKind.u64.wrap ((cN : Int) * 2 ^ min (8 * (i : Int)).toNat IntKind.u64.bits) = ((cN * 2 ^ (8 * i) % 18446744073709551616 : Nat) : Int) := by
      rw [IntKind.wrap_u64, show min (8 * (i : Int)).toNat IntKind.u64.bits = 8 * i by simp [IntKind.bits]; omega]
      simp
    have hml := Nat.mod_lt (cN * 2 ^ (8 * i)) (show 0 < 18446744073709551616 by decide)
    rw [e1]
    refine GO.ev (Ev.or64 rfl rfl (by omega) (by omega) (by omega) (by omega)) (by decide) ?_
    rw [Int.toNat_natCast, Int.toNat_natCast, or_step hwl hcN2 (by omega), ← hword]
    repeat (first | refine run ?_ | intro _)
    refine ⟨i + 1, by omega, by omega, ?_, Ent.refl _⟩
    rw [show (((i + 1 : Nat)) : Int) = (i : Int) + 1 by omega]
    exact (by repeat (first | exact EnvSub.nil _ | refine EnvSub.cons rfl ?_))
  rintro _ _
  repeat (first | refine run ?_ | intro _)
  ((with_reducible apply GO.atPlain); refine GO.efR (EfR.yield (hy' k hk2) rfl rfl (by repeat (first | exact Ent.refl _ | apply Ent.take))) (by decide) ?_)
  rintro _ _ ⟨_, (⟨rfl, rfl⟩ | ⟨rfl, rfl⟩), hL⟩
  · simp only [List.cons_append, List.nil_append] at hL; subst hL
    repeat (first | refine run ?_ | intro _)
    refine ⟨k + 1, by omega, by omega, ?_, Ent.refl _⟩
    rw [show (((8 * (k + 1) : Nat)) : Int) = ((8 * k : Nat) : Int) + 8 by omega]
    exact (by repeat (first | exact EnvSub.nil _ | refine EnvSub.cons rfl ?_))
  · simp only [List.cons_append, List.nil_append] at hL; subst hL
    repeat (first | refine run ?_ | intro _)
    exact KX.ends (by exact ResOk.tmps rfl) (Ent.refl _) (.inr ⟨k, rfl⟩)
theorem wordsOf_spec {L : List HP} (ad : Option Addr) (n c : Nat) :
    Tri Tryz.prog 107 #[.slice ad n c] L (fun v L' => ∃ bx, v = .func (.func 159) #[] #[.pointer (some ⟨bx, 0, none⟩)] ∧ L' = obj bx 48 [.slice ad n c] :: L) := by
  refine Tri.body (args := [.slice ad n c]) 4 en107 Tryz.func107 rfl rfl rfl (by simp) ?_
  repeat (first | refine run ?_ | intro _)
  exact KX.ends (by exact ResOk.tmps rfl) (Ent.refl _) ⟨_, rfl, rfl⟩
theorem foldl_take_succ (f : Nat → Nat → Nat) (a : Nat) (l : List Nat) {k : Nat} (h : k < l.length) : (l.take (k + 1)).foldl f a = f ((l.take k).foldl f a) l[k] := by
  rw [List.take_succ_eq_append_getElem h, List.foldl_append]
  rfl
theorem sum_spec {L : List HP} (label : ByteArray) (ad : Option Addr) (n c : Nat) (l : List Int) [hrd : Rds L ad Int (encZ .i64) 1 l] (hn : n = l.length) (hls : label.size ≤ 1000000) (hll : l.length ≤ 1000000000) :
    Tri Tryz.prog 108 #[.string label, .slice ad n c] L (fun v L' => v = .int .u64 (sumN (numsOf label) (l.map fun x => (IntKind.u64.wrap x).toNat)) ∧ L' = L) := by
  have hlb : ByteL (numsOf label) := by
    intro x hx
    simp only [numsOf, List.mem_map] at hx
    obtain ⟨y, _, rfl⟩ := hx
    have := y.toNat_lt
    omega
  have hlen := numsOf_len label
  refine Tri.body (args := [.string label, .slice ad n c]) 39 en108 Tryz.func108 rfl rfl rfl (by simp) ?_
  repeat (first | refine run ?_ | intro _)
  refine GO.ef (Ef.strBytes rfl) (by decide) ?_
  rintro _ _ ⟨lb, lc, rfl, hlc, rfl⟩
  rename_i cst
  refine GO.ef (Ef.callAll (wordsOf_spec (some ⟨lb, 0, none⟩) label.size lc) rfl) (by decide) ?_
  rintro _ _ ⟨bx, rfl, rfl⟩
  rw [← hlen] at hlc ⊢
  repeat (first | refine run ?_ | intro _)
  refine G.rangeFunc (words_iter (L0 := isl (encZ .u8) 1 (some ⟨lb, 0, none⟩) (numsOf label) :: L) bx (some ⟨lb, 0, none⟩) lc (numsOf label) hlb hlc (by omega)) rfl en159 (by decide) (by simp) (fun k => [obj cst 125 [.int .u64 (((wordsN (numsOf label)).take k).foldl mixN 0 : Nat)]]) ?_ ?_ ?_
  · simp only [List.take_zero, List.foldl_nil, List.cons_append, List.nil_append]
    repeat (first | exact Ent.refl _ | exact Ent.nil _ | refine Ent.take' ?_ | refine Ent.trans Ent.drop ?_)
  · intro k hk
    rw [List.length_map] at hk
    have hwk := wordsN_lt hlb _ (List.getElem_mem hk)
    have hst : ((wordsN (numsOf label)).take k).foldl mixN 0 < 18446744073709551616 := foldl_mixN_lt _ (by decide)
    simp only [List.getElem_map]
    show G _ _ _ ((12, .int .u64 ((wordsN (numsOf label))[k] : Int)) :: _) _ _
    repeat (first | refine run ?_ | intro _)
    (first | refine GO.ef (Ef.call (mix_spec (((wordsN (numsOf label)).take k).foldl mixN 0) (wordsN (numsOf label))[k] hst hwk) rfl (by repeat (first | exact Ent.refl _ | apply Ent.take))) (by decide) ?_)
    rintro _ _ ⟨_, ⟨rfl, rfl⟩, hL⟩
    simp only [List.cons_append, List.nil_append] at hL; subst hL
    repeat (first | refine run ?_ | intro _)
    refine KX.round ?_
    have e := foldl_take_succ mixN 0 (wordsN (numsOf label)) hk
    show Ent _ [obj cst 125 [.int .u64 (((wordsN (numsOf label)).take (k + 1)).foldl mixN 0 : Nat)]]
    rw [e]
    exact Ent.refl _
  rw [List.length_map, List.take_length]
  obtain ⟨s0, hs0⟩ : ∃ s0, (wordsN (numsOf label)).foldl mixN 0 = s0 := ⟨_, rfl⟩
  have hs0' : s0 < 18446744073709551616 := by rw [← hs0]; exact foldl_mixN_lt _ (by decide)
  rw [hs0]
  simp only [List.cons_append, List.nil_append]
  repeat (first | refine run ?_ | intro _)
  rw [← hlen]
  (first | refine GO.ef (Ef.call (mix_spec s0 (numsOf label).length hs0' (by omega)) rfl (by repeat (first | exact Ent.refl _ | apply Ent.take))) (by decide) ?_)
  rintro _ _ ⟨_, ⟨rfl, rfl⟩, hL⟩
  simp only [List.cons_append, List.nil_append] at hL; subst hL
  obtain ⟨s1, hs1⟩ : ∃ s1, mixN s0 (numsOf label).length = s1 := ⟨_, rfl⟩
  have hs1' : s1 < 18446744073709551616 := by rw [← hs1]; exact mixN_lt _ _
  rw [hs1]
  repeat (first | refine run ?_ | intro _)
  (first | refine GO.ef (Ef.call (mix_spec s1 n hs1' (by omega)) rfl (by repeat (first | exact Ent.refl _ | apply Ent.take))) (by decide) ?_)
  rintro _ _ ⟨_, ⟨rfl, rfl⟩, hL⟩
  simp only [List.cons_append, List.nil_append] at hL; subst hL
  obtain ⟨s2, hs2⟩ : ∃ s2, mixN s1 n = s2 := ⟨_, rfl⟩
  have hs2' : s2 < 18446744073709551616 := by rw [← hs2]; exact mixN_lt _ _
  rw [hs2]
  repeat (first | refine run ?_ | intro _)
  obtain ⟨ws, hws⟩ : ∃ ws, ws = l.map fun x => (IntKind.u64.wrap x).toNat := ⟨_, rfl⟩
  have hwl : ws.length = l.length := by rw [hws]; simp
  refine G.loop (α := Nat) (fun i => i ≤ n) (fun i => [(5, .pointer (some ⟨cst, 0, none⟩)), (26, .slice ad n c), (27, .int .i64 n), (28, .int .i64 (i : Int))]) (fun i => obj cst 125 [.int .u64 ((ws.take i).foldl mixN s2 : Nat)] :: L) (fun i => n - i) 0 (Nat.zero_le _) (by repeat (first | exact EnvSub.nil _ | refine EnvSub.cons rfl ?_)) ?_ ?_
  · simp only [List.take_zero, List.foldl_nil]
    exact Ent.consR (Ent.trans Ent.drop Ent.drop)
  intro i hi
  by_cases hlt : i < n
  case neg =>
    have : i = n := by omega
    subst this
    repeat (first | refine run ?_ | intro _)
    (first | refine GO.ef (Ef.call (mix_spec ((ws.take i).foldl mixN s2) 0 (foldl_mixN_lt _ hs2') (by decide)) rfl (by repeat (first | exact Ent.refl _ | apply Ent.take))) (by decide) ?_)
    rintro _ _ ⟨_, ⟨rfl, rfl⟩, hL⟩
    simp only [List.cons_append, List.nil_append] at hL; subst hL
    repeat (first | refine run ?_ | intro _)
    refine KX.ends (by exact ResOk.tmps rfl) Ent.drop ⟨?_, rfl⟩
    simp only [resV]
    rw [hn, ← hwl, List.take_length, sumN, ← hws, hs0, hs1, hwl, ← hn, hs2]
  have hw : IntKind.u64.wrap (l[i]!) = ((ws[i]'(by omega) : Nat) : Int) := by
    subst hws
    have h0 := wrap_u64_nonneg (l[i]!)
    rw [List.getElem_map, List.getElem!_eq_getElem?_getD, List.getElem?_eq_getElem (by omega)] at *
    simp only [Option.getD_some] at *
    omega
  have hwb : ws[i]'(by omega) < 18446744073709551616 := by
    have := IntKind.wrap_u64 (l[i]!)
    omega
  repeat (first | refine run ?_ | intro _)
  rw [Int.toNat_natCast]
  rw [hw]
  (first | refine GO.ef (Ef.call (mix_spec ((ws.take i).foldl mixN s2) (ws[i]'(by omega)) (foldl_mixN_lt _ hs2') hwb) rfl (by repeat (first | exact Ent.refl _ | apply Ent.take))) (by decide) ?_)
  rintro _ _ ⟨_, ⟨rfl, rfl⟩, hL⟩
  simp only [List.cons_append, List.nil_append] at hL; subst hL
  repeat (first | refine run ?_ | intro _)
  refine ⟨i + 1, by omega, by omega, ?_, ?_⟩
  · rw [show (((i + 1 : Nat)) : Int) = (i : Int) + 1 by omega]
    exact (by repeat (first | exact EnvSub.nil _ | refine EnvSub.cons rfl ?_))
  · rw [foldl_take_succ mixN s2 ws (by omega)]
    exact Ent.refl _
/-- Words as the program keeps them. -/
def i64s (l : List Nat) : List Int := l.map fun w : Nat => IntKind.i64.wrap (w : Int)
theorem i64s_back {l : List Nat} (h : ∀ w ∈ l, w < 18446744073709551616) : ((i64s l).map fun x => (IntKind.u64.wrap x).toNat) = l := by
  unfold i64s
  rw [List.map_map]
  conv => rhs; rw [← List.map_id l]
  refine List.map_congr_left ?_
  intro w hw
  have := h w hw
  simp only [Function.comp_apply, id_eq]
  rw [IntKind.wrap_u64, IntKind.wrap_i64]
  omega
theorem i64s_len (l : List Nat) : (i64s l).length = l.length := by simp [i64s]
theorem i64s_snoc (l : List Nat) (w : Nat) : i64s (l ++ [w]) = i64s l ++ [IntKind.i64.wrap (w : Int)] := by simp [i64s]
abbrev wcell (cx : Nat) (ws : List Nat) (x : SlV) : List HP := [obj cx 34 [.slice x.ad (i64s ws).length x.cap], osl (encZ .i64) 1 3 x.ad x.cap (i64s ws)]
theorem bytes_spec {L : List HP} (label : ByteArray) (ad : Option Addr) (n c : Nat) (b : List Int) [hrd : Rds L ad Int (encZ .u8) 1 b] (hb : ByteL b) (hn : n = b.length) (hc : n ≤ c) (hls : label.size ≤ 1000000) (hm : n ≤ 100000000) :
    Tri Tryz.prog 54 #[.string label, .slice ad n c] L (fun v L' => v = .int .u64 (bytesH (numsOf label) b) ∧ L' = L) := by
  subst hn
  refine Tri.body (args := [.string label, .slice ad b.length c]) 27 en54 Tryz.func54 rfl rfl rfl (by simp) ?_
  repeat (first | refine run ?_ | intro _)
  refine GO.ef (Ef.make0 (encZ .i64) rfl rfl (by omega) (by omega) (by omega)) (by decide) ?_
  rintro _ _ ⟨mb, rfl, rfl⟩
  repeat (first | refine run ?_ | intro _)
  rename_i cx
  refine GO.ef (Ef.callAll (wordsOf_spec ad b.length c) rfl) (by decide) ?_
  rintro _ _ ⟨bx, rfl, rfl⟩
  repeat (first | refine run ?_ | intro _)
  refine G.rangeFunc (words_iter (L0 := L) bx ad c b hb hc (by omega)) rfl en159 (by decide) (by simp) (fun k => [hex fun x : SlV => hstars (wcell cx ((wordsN b).take k) x)]) ?_ ?_ ?_
  · refine Ent.closeX (f := wcell cx ((wordsN b).take 0)) ⟨some ⟨mb, 0, none⟩, 0, (((b.length : Int) / 8 + 2)).toNat⟩ ?_
    simp only [List.take_zero, i64s, List.map_nil, List.length_nil, List.cons_append, List.nil_append]
    repeat (first | exact Ent.refl _ | exact Ent.nil _ | refine Ent.take' ?_ | refine Ent.trans Ent.drop ?_)
  · intro k hk
    rw [List.length_map] at hk
    have hwk := wordsN_lt hb _ (List.getElem_mem hk)
    have hwn := wordsN_len b
    have hnw : nWords b.length = (b.length + 7) / 8 := rfl
    have hil := i64s_len ((wordsN b).take k)
    rw [List.length_take] at hil
    simp only [List.getElem_map]
    show G _ _ _ ((14, .int .u64 ((wordsN b)[k] : Int)) :: _) _ _
    refine G.openX (f := wcell cx ((wordsN b).take k)) ?_
    intro x
    simp only [List.cons_append, List.nil_append]
    repeat (first | refine run ?_ | intro _)
    refine GO.ef (Ef.append1 (e := IntKind.i64.wrap (((wordsN b)[k] : Nat) : Int)) rfl rfl rfl rfl rfl (by rfl) (encZ_one _ _) (by omega) (by omega)) (by decide) ?_
    rintro _ _ ⟨ad2, cap2, rfl, rfl⟩
    repeat (first | refine run ?_ | intro _)
    refine KX.round ?_
    refine Ent.closeX (f := wcell cx ((wordsN b).take (k + 1))) ⟨ad2, 0, cap2⟩ ?_
    simp only [List.cons_append, List.nil_append]
    rw [List.take_succ_eq_append_getElem hk, i64s_snoc]
    repeat (first | exact Ent.refl _ | exact Ent.nil _ | refine Ent.take' ?_ | refine Ent.trans Ent.drop ?_)
  rw [List.length_map, List.take_length]
  simp only [List.cons_append, List.nil_append]
  repeat (first | refine run ?_ | intro _)
  refine GO.openX (f := wcell cx (wordsN b)) ?_
  intro x
  have hwn := wordsN_len b
  have hnw : nWords b.length = (b.length + 7) / 8 := rfl
  have hil := i64s_len (wordsN b)
  have hbk : (((i64s (wordsN b)) ++ [(b.length : Int)]).map fun x => (IntKind.u64.wrap x).toNat) = wordsN b ++ [b.length] := by
    rw [List.map_append, i64s_back (wordsN_lt hb)]
    simp only [List.map_cons, List.map_nil]
    rw [IntWalk.u64_in _ (by omega)]
    simp
  simp only [List.cons_append, List.nil_append]
  repeat (first | refine run ?_ | intro _)
  refine GO.ef (Ef.append1 (e := ((b.length : Nat) : Int)) rfl rfl rfl rfl rfl (by rfl) (encZ_one _ _) (by omega) (by omega)) (by decide) ?_
  rintro _ _ ⟨ad2, cap2, rfl, rfl⟩
  refine GO.ef (Ef.callAll (sum_spec label ad2 _ cap2 (i64s (wordsN b) ++ [(b.length : Int)]) rfl hls (by simp; omega)) rfl) (by decide) ?_
  rintro _ _ ⟨rfl, rfl⟩
  rw [hbk]
  repeat (first | refine run ?_ | intro _)
  refine KX.ends (by exact ResOk.tmps rfl) ?_ ⟨rfl, rfl⟩
  refine Ent.trans Ent.drop (Ent.trans Ent.drop ?_)
  repeat (first | exact Ent.refl _ | exact Ent.nil _ | refine Ent.take' ?_ | refine Ent.trans Ent.drop ?_)
end Go.Proofs.YtfmgkkofledkbaaGreatDoor

namespace Go.Proofs.YtfmgkkofledkbaaGreatDoor
open Go.V
def facInv : Nat := 17428512612931826493
theorem mul_fac_inj {x : Nat} (h : x < 18446744073709551616) : x * fac % 18446744073709551616 * facInv % 18446744073709551616 = x := by
  have e : fac * facInv % 18446744073709551616 = 1 := by decide
  rw [Nat.mod_mul_mod, Nat.mul_assoc, Nat.mul_mod, e, Nat.mul_one, Nat.mod_mod, Nat.mod_eq_of_lt h]
theorem xorshift_back {m : Nat} (h : m < 18446744073709551616) : (m ^^^ (m / 4294967296)) ^^^ ((m ^^^ (m / 4294967296)) / 4294967296) = m := by
  have e : (m ^^^ (m / 4294967296)) / 4294967296 = m / 4294967296 := by
    have h1 : (4294967296 : Nat) = 2 ^ 32 := by decide
    rw [h1, ← Nat.shiftRight_eq_div_pow, ← Nat.shiftRight_eq_div_pow, Nat.shiftRight_xor_distrib]
    have h2 : m >>> 32 >>> 32 = 0 := by
      rw [← Nat.shiftRight_add, Nat.shiftRight_eq_div_pow]
      exact Nat.div_eq_of_lt (by simpa using h)
    rw [h2, Nat.xor_zero]
  rw [e, Nat.xor_assoc, Nat.xor_self, Nat.xor_zero]
theorem mixN_core {a b : Nat} (ha : a < 18446744073709551616) (hb : b < 18446744073709551616) (h : (a * fac % 18446744073709551616) ^^^ (a * fac % 18446744073709551616 / 4294967296) = (b * fac % 18446744073709551616) ^^^ (b * fac % 18446744073709551616 / 4294967296)) : a = b := by
  have h1 := xorshift_back (Nat.mod_lt (a * fac) (show 0 < 18446744073709551616 by decide))
  have h2 := xorshift_back (Nat.mod_lt (b * fac) (show 0 < 18446744073709551616 by decide))
  rw [h] at h1
  have h3 : a * fac % 18446744073709551616 = b * fac % 18446744073709551616 := h1.symm.trans h2
  rw [← mul_fac_inj ha, ← mul_fac_inj hb, h3]
theorem mixN_injw {s w w' : Nat} (hs : s < 18446744073709551616) (hw : w < 18446744073709551616) (hw' : w' < 18446744073709551616) (h : mixN s w = mixN s w') : w = w' := by
  have := mixN_core (xor_lt64 hs hw) (xor_lt64 hs hw') h
  have h2 := congrArg (fun x => s ^^^ x) this
  simpa [← Nat.xor_assoc] using h2
theorem mixN_injs {s s' w : Nat} (hs : s < 18446744073709551616) (hs' : s' < 18446744073709551616) (hw : w < 18446744073709551616) (h : mixN s w = mixN s' w) : s = s' := by
  have := mixN_core (xor_lt64 hs hw) (xor_lt64 hs' hw) h
  have h2 := congrArg (fun x => x ^^^ w) this
  simpa [Nat.xor_assoc] using h2
end Go.Proofs.YtfmgkkofledkbaaGreatDoor

namespace Go.Proofs.YtfmgkkofledkbaaGreatDoor
open Go.V
/-- A word of a stream. -/
def dword (label : List Int) (key at_ : Nat) : Nat := sumN label [key, at_]
theorem twoMix {T a b : Nat} (h0 : T < 18446744073709551616) (ha : a < 18446744073709551616) (hb' : b < 18446744073709551616) (h : mixN (mixN T a) 0 = mixN (mixN T b) 0) : a = b :=
  mixN_injw h0 ha hb' (mixN_injs (mixN_lt T a) (mixN_lt T b) (Nat.lt_of_le_of_lt (Nat.zero_le _) ha) h)
theorem dword_eq (label : List Int) (key x : Nat) : dword label key x = mixN (mixN (mixN (mixN (mixN ((wordsN label).foldl mixN 0) label.length) [key, x].length) key) x) 0 := by
  unfold dword sumN
  rw [List.foldl_cons, List.foldl_cons, List.foldl_nil]
theorem dword_inj {label : List Int} {key a b : Nat} (ha : a < 18446744073709551616) (hb' : b < 18446744073709551616) (h : dword label key a = dword label key b) : a = b := by
  rw [dword_eq, dword_eq] at h
  have e : [key, a].length = [key, b].length := rfl
  rw [e] at h
  generalize hT : mixN (mixN (mixN ((wordsN label).foldl mixN 0) label.length) [key, b].length) key = T at h
  have h0 : T < 18446744073709551616 := by rw [← hT]; exact mixN_lt _ _
  exact twoMix h0 ha hb' h
theorem dword_lt (label : List Int) (key a : Nat) : dword label key a < 18446744073709551616 := mixN_lt _ _
/-- A word is accepted for n results. -/
def accW (w n : Nat) : Prop := w / n * n + n ≤ 18446744073709551616
instance (w n : Nat) : Decidable (accW w n) := by unfold accW; infer_instance
/-- A roll: the result, the error, and the position behind it. -/
def rollN (label : List Int) (key n : Nat) : Nat → Nat → Int × Int × Nat
  | 0, a => (0, 4, a)
  | f + 1, a => if accW (dword label key a) n then (((dword label key a % n : Nat) : Int), 0, a + 1) else rollN label key n f (a + 1)
theorem rollN_bd {label : List Int} {key n : Nat} (hn : 0 < n) : ∀ (f a : Nat), 0 ≤ (rollN label key n f a).1 ∧ (rollN label key n f a).1 < n ∧ a ≤ (rollN label key n f a).2.2 ∧ (rollN label key n f a).2.2 ≤ a + f ∧ ((rollN label key n f a).2.1 = 0 ∨ (rollN label key n f a).2.1 = 4)
  | 0, a => by
    show 0 ≤ (0 : Int) ∧ (0 : Int) < (n : Int) ∧ a ≤ a ∧ a ≤ a + 0 ∧ ((4 : Int) = 0 ∨ (4 : Int) = 4)
    omega
  | f + 1, a => by
    unfold rollN
    split
    · have := Nat.mod_lt (dword label key a) hn
      dsimp only
      omega
    · have := rollN_bd (label := label) (key := key) hn f (a + 1)
      omega
theorem acc_of {w n : Nat} (hn : 0 < n) (h : w < 18446744073709551616 - 18446744073709551616 % n) : accW w n := by
  unfold accW
  have h1 := Nat.div_add_mod 18446744073709551616 n
  have h2 : w / n < 18446744073709551616 / n := by
    rw [Nat.div_lt_iff_lt_mul hn, Nat.mul_comm]
    omega
  have h3 : (w / n + 1) * n ≤ 18446744073709551616 / n * n := Nat.mul_le_mul_right _ h2
  rw [Nat.add_mul, Nat.one_mul, Nat.mul_comm (18446744073709551616 / n) n] at h3
  omega
theorem not_acc {w n : Nat} (hn : 0 < n) (h : ¬ accW w n) : 18446744073709551616 - 18446744073709551616 % n ≤ w := by
  rcases Nat.lt_or_ge w (18446744073709551616 - 18446744073709551616 % n) with h1 | h1
  · exact absurd (acc_of hn h1) h
  · exact h1
theorem rollN_refused {label : List Int} {key n : Nat} : ∀ (f a : Nat), (rollN label key n f a).2.1 ≠ 0 → ∀ i, i < f → ¬ accW (dword label key (a + i)) n
  | 0, a, _, i, hi => by omega
  | f + 1, a, h, i, hi => by
    unfold rollN at h
    split at h
    · exact absurd rfl h
    · rename_i hna
      cases i with
      | zero => exact hna
      | succ i =>
        have := rollN_refused f (a + 1) h i (by omega)
        rw [show a + 1 + i = a + (i + 1) by omega] at this
        exact this
/-- A roll of few results succeeds: the words of a stream are distinct. -/
theorem rollN_ok {label : List Int} {key n f a : Nat} (hn : 0 < n) (hf : n ≤ f) (ha : a + f < 18446744073709551616) : (rollN label key n f a).2.1 = 0 := by
  by_cases h : (rollN label key n f a).2.1 = 0
  · exact h
  exfalso
  have h1 := rollN_refused f a h
  have hm : 18446744073709551616 % n < n := Nat.mod_lt _ hn
  generalize hc : 18446744073709551616 % n = c at hm
  have hcle : c ≤ 18446744073709551616 := by rw [← hc]; exact Nat.mod_le _ _
  have h2 : ((List.range f).map (fun i => dword label key (a + i) - (18446744073709551616 - c))).Nodup := by
    rw [List.Nodup, List.pairwise_map]
    refine (List.pairwise_iff_getElem.2 ?_)
    intro i j hi hj hij
    simp only [List.getElem_range]
    simp only [List.length_range] at hi hj
    have x1 := not_acc hn (h1 i hi)
    have x2 := not_acc hn (h1 j hj)
    rw [hc] at x1 x2
    intro he
    have := dword_inj (label := label) (key := key) (show a + i < 18446744073709551616 by omega) (show a + j < 18446744073709551616 by omega) (by omega)
    omega
  have h3 := nodup_len (n := c) h2 (by
    intro x hx
    obtain ⟨i, hi, rfl⟩ := List.mem_map.1 hx
    have x1 := not_acc hn (h1 i (List.mem_range.1 hi))
    have x2 := dword_lt label key (a + i)
    rw [hc] at x1
    omega)
  simp at h3
  omega
/-- What the program asks. -/
theorem acc_prog {w n : Nat} (hn : 0 < n) (hw : w < 18446744073709551616) : accW w n ↔ ¬ (0 < (18446744073709551615 % n + 1) % n ∧ 18446744073709551616 - (18446744073709551615 % n + 1) % n ≤ w) := by
  have e : (18446744073709551615 % n + 1) % n = 18446744073709551616 % n := by
    rw [Nat.mod_add_mod]
  rw [e]
  constructor
  · rintro h ⟨h1, h2⟩
    unfold accW at h
    have h3 := Nat.div_add_mod 18446744073709551616 n
    have h4 : (w / n + 1) * n ≤ 18446744073709551616 := by rw [Nat.add_mul]; omega
    have h5 : w / n + 1 ≤ 18446744073709551616 / n := (Nat.le_div_iff_mul_le hn).2 h4
    have h6 : w < (w / n + 1) * n := by
      have := Nat.lt_div_mul_add (a := w) hn
      rw [Nat.add_mul]; omega
    have h7 : (w / n + 1) * n ≤ 18446744073709551616 / n * n := Nat.mul_le_mul_right _ h5
    rw [Nat.mul_comm (18446744073709551616 / n) n] at h7
    omega
  · intro h
    by_cases h0 : 18446744073709551616 % n = 0
    · exact acc_of hn (by omega)
    · refine acc_of hn ?_
      have hm : 18446744073709551616 % n ≤ 18446744073709551616 := Nat.mod_le _ _
      omega
end Go.Proofs.YtfmgkkofledkbaaGreatDoor

namespace Go.V
theorem Ev.negN {P : Program} {env : Env} {L : List HP} {ty t : TypeId} {x : Operand} {a : Nat} (hx : evE env x = some (.int .u64 (a : Int))) (h0 : 0 < a) (h1 : a < 18446744073709551616) : Ev P L env (.unOp .neg t x) ty (.int .u64 ((18446744073709551616 - a : Nat) : Int)) :=
  Ev.mk (fun _ _ _ w ea _ _ _ _ _ => by
    have hw : IntKind.u64.wrap (0 - (a : Int)) = ((18446744073709551616 - a : Nat) : Int) := by rw [IntKind.wrap_u64]; omega
    simp [execOp, evE_ok ea hx, Op.unary, Op.intArith] at hw ⊢
    exact hw)
end Go.V
namespace Go.Proofs.YtfmgkkofledkbaaGreatDoor
open Go.V
attribute [local irreducible] G GO GP GPW GPK Ev Ef EfR Ent CB GB Enters
abbrev wordBA : ByteArray := { data := #[119, 111, 114, 100] }
def wordL : List Int := [119, 111, 114, 100]
theorem wordL_eq : numsOf wordBA = wordL := by decide
def dw (key at_ : Nat) : Nat := dword wordL key at_
theorem dw_lt (key a : Nat) : dw key a < 18446744073709551616 := dword_lt _ _ _
theorem words_back {key at_ : Nat} (hk : key < 18446744073709551616) (ha : at_ < 18446744073709551616) : ([IntKind.i64.wrap (key : Int), (at_ : Int)].map fun x => (IntKind.u64.wrap x).toNat) = [key, at_] := by
  have h1 := i64s_back (l := [key]) (by simpa using hk)
  simp only [i64s, List.map_cons, List.map_nil] at h1 ⊢
  have h2 : (IntKind.u64.wrap (IntKind.i64.wrap (key : Int))).toNat = key := by simpa using h1
  rw [h2, IntWalk.u64_in (at_ : Int) (by omega), Int.toNat_natCast]
theorem wordAt_spec {L : List HP} (key at_ : Nat) (hk : key < 18446744073709551616) (ha : at_ < 4611686018427387904) :
    Tri Tryz.prog 162 #[.int .u64 (key : Int), .int .i64 (at_ : Int)] L (fun v L' => v = .int .u64 (dw key at_ : Int) ∧ L' = L) := by
  refine Tri.body (args := [.int .u64 (key : Int), .int .i64 (at_ : Int)]) 10 en162 Tryz.func162 rfl rfl rfl (by simp) ?_
  repeat (first | refine runB ?_ | intro _)
  rename_i b
  refine GO.ent (Ent.objSl (enc := encZ .i64) (sz := 1) (xs := [IntKind.i64.wrap (key : Int), (at_ : Int)]) rfl rfl (fun _ _ => rfl) (by simp)) ?_
  refine GO.ef (Ef.callAll (sum_spec wordBA (some ⟨b, 0, none⟩) 2 2 [IntKind.i64.wrap (key : Int), (at_ : Int)] rfl (by decide) (by simp)) rfl) (by decide) ?_
  rintro _ _ ⟨rfl, rfl⟩
  rw [words_back hk (by omega), wordL_eq]
  repeat (first | refine runB ?_ | intro _)
  exact KX.ends (by exact ResOk.tmps rfl) Ent.drop ⟨rfl, rfl⟩
theorem reduce_spec {L : List HP} (w n : Nat) (hw : w < 18446744073709551616) (h1 : 1 ≤ n) (h2 : n ≤ 4611686018427387904) :
    Tri Tryz.prog 110 #[.int .u64 (w : Int), .int .i64 (n : Int)] L (fun v L' => v = .tuple #[.int .i64 (if accW w n then ((w % n : Nat) : Int) else 0), .bool (dB (accW w n))] ∧ L' = L) := by
  have hm1 := Nat.mod_lt 18446744073709551615 (show 0 < n by omega)
  have hm2 := Nat.mod_lt (18446744073709551615 % n + 1) (show 0 < n by omega)
  have hm3 := Nat.mod_lt w (show 0 < n by omega)
  have hap := acc_prog (n := n) (by omega) hw
  refine Tri.body (args := [.int .u64 (w : Int), .int .i64 (n : Int)]) 29 en110 Tryz.func110 rfl rfl rfl (by simp) ?_
  repeat (first | refine runB ?_ | intro _)
  rw [show (18446744073709551615 : Int) % (n : Int) = ((18446744073709551615 % n : Nat) : Int) from rfl]
  generalize 18446744073709551615 % n = r1 at hm1 hm2 hap
  refine GO.ev (Ev.addNs (a := r1) (b := 1) (by omega) rfl rfl) (by decide) ?_
  repeat (first | refine runB ?_ | intro _)
  rw [show (((r1 + 1 : Nat)) : Int) % (n : Int) = (((r1 + 1) % n : Nat) : Int) from rfl]
  generalize (r1 + 1) % n = r2 at hm2 hap
  by_cases h0 : 0 < r2
  · repeat (first | refine runB ?_ | intro _)
    refine GO.ev (Ev.negN rfl h0 (by omega)) (by decide) ?_
    by_cases h3 : 18446744073709551616 - r2 ≤ w
    · have hna : ¬ accW w n := fun h => hap.1 h ⟨h0, h3⟩
      rw [if_neg hna, dB_neg hna]
      repeat (first | refine runB ?_ | intro _)
      exact KX.ends (by exact ResOk.tmps rfl) (Ent.refl _) ⟨rfl, rfl⟩
    · have ha : accW w n := hap.2 (fun h => h3 h.2)
      rw [if_pos ha, dB_pos ha]
      repeat (first | refine runB ?_ | intro _)
      exact KX.ends (by exact ResOk.tmps rfl) (Ent.refl _) ⟨rfl, rfl⟩
  · have ha : accW w n := hap.2 (fun h => h0 h.1)
    rw [if_pos ha, dB_pos ha]
    repeat (first | refine runB ?_ | intro _)
    exact KX.ends (by exact ResOk.tmps rfl) (Ent.refl _) ⟨rfl, rfl⟩
abbrev tDice : Nat := 128
abbrev tDiceP : Nat := 46
/-- A die at a place of a stream. -/
abbrev diceA (d key at_ : Nat) : HP := obj d tDice [.int .u64 (key : Int), .int .i64 (at_ : Int)]
def wordVs (key at_ : Nat) : List (List Value) := (List.range 128).map (fun k => [.int .u64 (dw key (at_ + k) : Int)])
theorem wordVs_len (key at_ : Nat) : (wordVs key at_).length = 128 := by simp [wordVs]
theorem wordVs_get {key at_ k : Nat} (h : k < (wordVs key at_).length) : (wordVs key at_)[k] = [.int .u64 (dw key (at_ + k) : Int)] := by simp [wordVs]
abbrev plD1_161_2 : List Stp := [.ev 0, .ev 1, .ev 2, .ev 3, .ev 4, .ev 5, .ev 6, .ev 7, .ef 8, .ev 9]
theorem dwords_iter (bx d key at_ : Nat) (hk : key < 18446744073709551616) (ha : at_ ≤ 1000000000000) :
    IterY Tryz.prog 161 [.pointer (some ⟨bx, 0, none⟩)] (wordVs key at_) [obj bx tDiceP [.pointer (some ⟨d, 0, none⟩)], diceA d key at_] [obj bx tDiceP [.pointer (some ⟨d, 0, none⟩)], diceA d key (at_ + 128)] (fun k => [obj bx tDiceP [.pointer (some ⟨d, 0, none⟩)], diceA d key (at_ + (k + 1))]) := by
  intro l J Jx hy
  rw [wordVs_len]
  have hy' : ∀ k, k < 128 → YTri Tryz.prog l [.int .u64 (dw key (at_ + k) : Int)] [J k] (fun v L' => (v = .bool true ∧ L' = [J (k + 1)]) ∨ (v = .bool false ∧ L' = [Jx k])) := by
    intro k hk
    have h := hy k (by rw [wordVs_len]; exact hk)
    rw [wordVs_get] at h
    exact h
  clear hy
  refine Tri.body (args := [.func (.yield l) #[] #[], .pointer (some ⟨bx, 0, none⟩)]) 27 en161 Tryz.func161 rfl rfl rfl (by simp) ?_
  repeat (first | refine runB ?_ | intro _ | ((with_reducible apply G.atDraw); first | refine G.draw (N := 27) (id := 2) plD1_161_2 mixed (by kernel_rfl) ?_))
  refine G.loop (α := Nat) (fun k => k ≤ 128) (fun k => [(0, .func (.yield l) #[] #[]), (1, .pointer (some ⟨bx, 0, none⟩)), (4, .int .i64 (k : Int))]) (fun k => [J k, obj bx tDiceP [.pointer (some ⟨d, 0, none⟩)], diceA d key (at_ + k)]) (fun k => 128 - k) 0 (by decide) (by repeat (first | exact EnvSub.nil _ | refine EnvSub.cons rfl ?_)) (Ent.refl _) ?_
  intro k hk2
  by_cases hlt : k < 128
  case neg =>
    have hkn : k = 128 := by omega
    subst hkn
    repeat (first | refine runB ?_ | intro _ | ((with_reducible apply G.atDraw); first | refine G.draw (N := 27) (id := 2) plD1_161_2 mixed (by kernel_rfl) ?_))
    exact KX.endsN (by exact ResOk.tmps rfl) (Ent.refl _) (.inl rfl)
  repeat (first | refine runB ?_ | intro _ | ((with_reducible apply G.atDraw); first | refine G.draw (N := 27) (id := 2) plD1_161_2 mixed (by kernel_rfl) ?_))
  refine GPW.ef (Ef.callAll (wordAt_spec key (at_ + k) hk (by omega)) rfl) (by decide) ?_
  rintro _ _ ⟨rfl, rfl⟩
  repeat (first | refine runB ?_ | intro _ | ((with_reducible apply G.atDraw); first | refine G.draw (N := 27) (id := 2) plD1_161_2 mixed (by kernel_rfl) ?_))
  rw [show ((at_ + k : Nat) : Int) + 1 = ((at_ + (k + 1) : Nat) : Int) by omega]
  ((with_reducible apply GO.atPlain); refine GO.efR (EfR.yield (hy' k hlt) rfl rfl (by repeat (first | exact Ent.refl _ | apply Ent.take))) (by decide) ?_)
  rintro _ _ ⟨_, (⟨rfl, rfl⟩ | ⟨rfl, rfl⟩), hL⟩
  · simp only [List.cons_append, List.nil_append] at hL; subst hL
    repeat (first | refine runB ?_ | intro _ | ((with_reducible apply G.atDraw); first | refine G.draw (N := 27) (id := 2) plD1_161_2 mixed (by kernel_rfl) ?_))
    refine ⟨k + 1, by omega, by omega, ?_, by repeat (first | exact Ent.refl _ | exact Ent.nil _ | refine Ent.take' ?_ | refine Ent.trans Ent.drop ?_)⟩
    rw [show (((k + 1 : Nat)) : Int) = (k : Int) + 1 by omega]
    exact (by repeat (first | exact EnvSub.nil _ | refine EnvSub.cons rfl ?_))
  · simp only [List.cons_append, List.nil_append] at hL; subst hL
    repeat (first | refine runB ?_ | intro _ | ((with_reducible apply G.atDraw); first | refine G.draw (N := 27) (id := 2) plD1_161_2 mixed (by kernel_rfl) ?_))
    refine KX.ends (by exact ResOk.tmps rfl) ?_ (.inr ⟨k, rfl⟩)
    repeat (first | exact Ent.refl _ | exact Ent.nil _ | refine Ent.take' ?_ | refine Ent.trans Ent.drop ?_)
def rollD (key n at_ : Nat) : Int × Int × Nat := rollN wordL key n 128 at_
theorem rollN_succ (label : List Int) (key n f a : Nat) : rollN label key n (f + 1) a = if accW (dword label key a) n then (((dword label key a % n : Nat) : Int), 0, a + 1) else rollN label key n f (a + 1) := rfl
theorem rollN_at {label : List Int} {key n : Nat} (f : Nat) : ∀ (a k : Nat), k < f → (∀ i, i < k → ¬ accW (dword label key (a + i)) n) → accW (dword label key (a + k)) n → rollN label key n f a = (((dword label key (a + k) % n : Nat) : Int), 0, a + (k + 1)) := by
  induction f with
  | zero => intro a k h; omega
  | succ f ih =>
    intro a k h hr hacc
    rw [rollN_succ]
    cases k with
    | zero =>
      rw [Nat.add_zero] at hacc
      rw [if_pos hacc]
      rfl
    | succ k =>
      have h0 := hr 0 (by omega)
      rw [Nat.add_zero] at h0
      have e : a + 1 + k = a + (k + 1) := by omega
      have h1 := ih (a + 1) k (by omega) (fun i hi => by have := hr (i + 1) (by omega); rw [show a + 1 + i = a + (i + 1) by omega]; exact this) (by rw [e]; exact hacc)
      rw [if_neg h0, h1, e, show a + 1 + (k + 1) = a + (k + 1 + 1) by omega]
theorem rollN_none {label : List Int} {key n : Nat} (f : Nat) : ∀ a : Nat, (∀ i, i < f → ¬ accW (dword label key (a + i)) n) → rollN label key n f a = (0, 4, a + f) := by
  induction f with
  | zero => intro a _; rfl
  | succ f ih =>
    intro a hr
    have h0 := hr 0 (by omega)
    rw [Nat.add_zero] at h0
    rw [rollN_succ, if_neg h0, ih (a + 1) (fun i hi => by have := hr (i + 1) (by omega); rw [show a + 1 + i = a + (i + 1) by omega]; exact this), show a + 1 + f = a + (f + 1) by omega]
set_option maxHeartbeats 1000000 in
theorem roll_spec (d key at_ n : Nat) (hk : key < 18446744073709551616) (ha : at_ ≤ 1000000000000) (h1 : 1 ≤ n) (h2 : n ≤ 4611686018427387904) :
    Tri Tryz.prog 55 #[.pointer (some ⟨d, 0, none⟩), .int .i64 (n : Int)] [diceA d key at_] (fun v L' => v = .tuple #[.int .i64 (rollD key n at_).1, .int .i64 (rollD key n at_).2.1] ∧ L' = [diceA d key (rollD key n at_).2.2]) := by
  refine Tri.body (args := [.pointer (some ⟨d, 0, none⟩), .int .i64 (n : Int)]) 22 en55 Tryz.func55 rfl rfl rfl (by simp) ?_
  repeat (first | refine runB ?_ | intro _ | ((with_reducible apply GO.atPlain); refine GO.callIn en109 Tryz.func109 rfl rfl rfl rfl (by simp) (by decide) ?_) | ((with_reducible apply GPW.atEf); refine GPW.callIn en109 Tryz.func109 rfl rfl rfl rfl (by simp) (by decide) ?_) | ((with_reducible apply GO.atPlain); refine GO.callFnIn rfl en109 Tryz.func109 rfl rfl rfl rfl (by simp) (by decide) ?_) | ((with_reducible apply GPW.atEf); refine GPW.callFnIn rfl en109 Tryz.func109 rfl rfl rfl rfl (by simp) (by decide) ?_) | ((with_reducible apply KX.atIn); first | refine KX.in0 (.inl rfl) ?_ | refine KX.in0 (.inr rfl) ?_ | refine KX.in1 (.inl rfl) rfl ?_ | refine KX.in2 (.inl rfl) rfl rfl ?_ | refine KX.in3 (.inl rfl) rfl rfl rfl ?_ | refine KX.inC (.inl rfl) rfl (by rfl) ?_ | refine KX.inC1 (.inl rfl) rfl (by rfl) rfl ?_))
  rename_i b3 b4 b5 bx
  refine G.rangeFuncY (dwords_iter bx d key at_ hk ha) rfl en161 (by decide) ?_ (fun k => [hpure (∀ i, i < k → ¬ accW (dw key (at_ + i)) n), obj b3 3 [.int .i64 (n : Int)], obj b4 3 [.int .i64 0], obj b5 43 [.int .i64 0]]) ?_ ?_ ?_
  · intro vs hvs
    obtain ⟨k, _, rfl⟩ := List.mem_map.1 hvs
    rfl
  · refine Ent.pure (fun i hi => by omega) ?_
    repeat (first | exact Ent.refl _ | exact Ent.nil _ | refine Ent.take' ?_ | refine Ent.trans Ent.drop ?_)
  · intro k hk2
    have hk3 : k < 128 := by rw [wordVs_len] at hk2; exact hk2
    rw [wordVs_get]
    show G _ _ _ ((13, .int .u64 (dw key (at_ + k) : Int)) :: _) _ _
    refine G.pureE ?_
    intro hr
    repeat (first | refine runB ?_ | intro _ | ((with_reducible apply GO.atPlain); refine GO.callIn en109 Tryz.func109 rfl rfl rfl rfl (by simp) (by decide) ?_) | ((with_reducible apply GPW.atEf); refine GPW.callIn en109 Tryz.func109 rfl rfl rfl rfl (by simp) (by decide) ?_) | ((with_reducible apply GO.atPlain); refine GO.callFnIn rfl en109 Tryz.func109 rfl rfl rfl rfl (by simp) (by decide) ?_) | ((with_reducible apply GPW.atEf); refine GPW.callFnIn rfl en109 Tryz.func109 rfl rfl rfl rfl (by simp) (by decide) ?_) | ((with_reducible apply KX.atIn); first | refine KX.in0 (.inl rfl) ?_ | refine KX.in0 (.inr rfl) ?_ | refine KX.in1 (.inl rfl) rfl ?_ | refine KX.in2 (.inl rfl) rfl rfl ?_ | refine KX.in3 (.inl rfl) rfl rfl rfl ?_ | refine KX.inC (.inl rfl) rfl (by rfl) ?_ | refine KX.inC1 (.inl rfl) rfl (by rfl) rfl ?_))
    refine GO.ef (Ef.callAll (reduce_spec (dw key (at_ + k)) n (dw_lt _ _) h1 h2) rfl) (by decide) ?_
    rintro _ _ ⟨rfl, rfl⟩
    by_cases hacc : accW (dw key (at_ + k)) n
    · rw [if_pos hacc, dB_pos hacc]
      have e : rollD key n at_ = (((dw key (at_ + k) % n : Nat) : Int), 0, at_ + (k + 1)) := rollN_at 128 at_ k hk3 hr hacc
      rw [e]
      repeat (first | refine runB ?_ | intro _ | ((with_reducible apply GO.atPlain); refine GO.callIn en109 Tryz.func109 rfl rfl rfl rfl (by simp) (by decide) ?_) | ((with_reducible apply GPW.atEf); refine GPW.callIn en109 Tryz.func109 rfl rfl rfl rfl (by simp) (by decide) ?_) | ((with_reducible apply GO.atPlain); refine GO.callFnIn rfl en109 Tryz.func109 rfl rfl rfl rfl (by simp) (by decide) ?_) | ((with_reducible apply GPW.atEf); refine GPW.callFnIn rfl en109 Tryz.func109 rfl rfl rfl rfl (by simp) (by decide) ?_) | ((with_reducible apply KX.atIn); first | refine KX.in0 (.inl rfl) ?_ | refine KX.in0 (.inr rfl) ?_ | refine KX.in1 (.inl rfl) rfl ?_ | refine KX.in2 (.inl rfl) rfl rfl ?_ | refine KX.in3 (.inl rfl) rfl rfl rfl ?_ | refine KX.inC (.inl rfl) rfl (by rfl) ?_ | refine KX.inC1 (.inl rfl) rfl (by rfl) rfl ?_))
      refine KX.roundRet ?_
      simp only [List.cons_append, List.nil_append]
      repeat (first | refine runB ?_ | intro _ | ((with_reducible apply GO.atPlain); refine GO.callIn en109 Tryz.func109 rfl rfl rfl rfl (by simp) (by decide) ?_) | ((with_reducible apply GPW.atEf); refine GPW.callIn en109 Tryz.func109 rfl rfl rfl rfl (by simp) (by decide) ?_) | ((with_reducible apply GO.atPlain); refine GO.callFnIn rfl en109 Tryz.func109 rfl rfl rfl rfl (by simp) (by decide) ?_) | ((with_reducible apply GPW.atEf); refine GPW.callFnIn rfl en109 Tryz.func109 rfl rfl rfl rfl (by simp) (by decide) ?_) | ((with_reducible apply KX.atIn); first | refine KX.in0 (.inl rfl) ?_ | refine KX.in0 (.inr rfl) ?_ | refine KX.in1 (.inl rfl) rfl ?_ | refine KX.in2 (.inl rfl) rfl rfl ?_ | refine KX.in3 (.inl rfl) rfl rfl rfl ?_ | refine KX.inC (.inl rfl) rfl (by rfl) ?_ | refine KX.inC1 (.inl rfl) rfl (by rfl) rfl ?_))
      refine KX.ends (vs := [.int .i64 ((dw key (at_ + k) % n : Nat) : Int), .int .i64 0]) (ResOk.cell1 rfl (ResOk.cell1 rfl ResOk.nil)) ?_ ⟨rfl, rfl⟩
      repeat (first | exact Ent.refl _ | exact Ent.nil _ | refine Ent.take' ?_ | refine Ent.trans Ent.drop ?_)
    · rw [if_neg hacc, dB_neg hacc]
      repeat (first | refine runB ?_ | intro _ | ((with_reducible apply GO.atPlain); refine GO.callIn en109 Tryz.func109 rfl rfl rfl rfl (by simp) (by decide) ?_) | ((with_reducible apply GPW.atEf); refine GPW.callIn en109 Tryz.func109 rfl rfl rfl rfl (by simp) (by decide) ?_) | ((with_reducible apply GO.atPlain); refine GO.callFnIn rfl en109 Tryz.func109 rfl rfl rfl rfl (by simp) (by decide) ?_) | ((with_reducible apply GPW.atEf); refine GPW.callFnIn rfl en109 Tryz.func109 rfl rfl rfl rfl (by simp) (by decide) ?_) | ((with_reducible apply KX.atIn); first | refine KX.in0 (.inl rfl) ?_ | refine KX.in0 (.inr rfl) ?_ | refine KX.in1 (.inl rfl) rfl ?_ | refine KX.in2 (.inl rfl) rfl rfl ?_ | refine KX.in3 (.inl rfl) rfl rfl rfl ?_ | refine KX.inC (.inl rfl) rfl (by rfl) ?_ | refine KX.inC1 (.inl rfl) rfl (by rfl) rfl ?_))
      refine KX.round ?_
      refine Ent.pure ?_ (by repeat (first | exact Ent.refl _ | exact Ent.nil _ | refine Ent.take' ?_ | refine Ent.trans Ent.drop ?_))
      intro i hi
      by_cases h : i < k
      · exact hr i h
      · obtain rfl : i = k := by omega
        exact hacc
  · rw [wordVs_len]
    simp only [List.cons_append, List.nil_append]
    refine KX.block_normal (KX.seqG ?_)
    refine G.pureE ?_
    intro hr
    have e : rollD key n at_ = (0, 4, at_ + 128) := rollN_none 128 at_ hr
    rw [e]
    repeat (first | refine runB ?_ | intro _ | ((with_reducible apply GO.atPlain); refine GO.callIn en109 Tryz.func109 rfl rfl rfl rfl (by simp) (by decide) ?_) | ((with_reducible apply GPW.atEf); refine GPW.callIn en109 Tryz.func109 rfl rfl rfl rfl (by simp) (by decide) ?_) | ((with_reducible apply GO.atPlain); refine GO.callFnIn rfl en109 Tryz.func109 rfl rfl rfl rfl (by simp) (by decide) ?_) | ((with_reducible apply GPW.atEf); refine GPW.callFnIn rfl en109 Tryz.func109 rfl rfl rfl rfl (by simp) (by decide) ?_) | ((with_reducible apply KX.atIn); first | refine KX.in0 (.inl rfl) ?_ | refine KX.in0 (.inr rfl) ?_ | refine KX.in1 (.inl rfl) rfl ?_ | refine KX.in2 (.inl rfl) rfl rfl ?_ | refine KX.in3 (.inl rfl) rfl rfl rfl ?_ | refine KX.inC (.inl rfl) rfl (by rfl) ?_ | refine KX.inC1 (.inl rfl) rfl (by rfl) rfl ?_))
    refine KX.ends (vs := [.int .i64 0, .int .i64 4]) (ResOk.cell1 rfl (ResOk.cell1 rfl ResOk.nil)) ?_ ⟨rfl, rfl⟩
    repeat (first | exact Ent.refl _ | exact Ent.nil _ | refine Ent.take' ?_ | refine Ent.trans Ent.drop ?_)
end Go.Proofs.YtfmgkkofledkbaaGreatDoor
