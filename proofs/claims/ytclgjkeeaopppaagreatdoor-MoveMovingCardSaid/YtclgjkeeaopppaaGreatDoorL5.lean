/- Contract: a ledger posts a step that spawns units for one account. -/
import Derived.Test.YtclgjkeeaopppaaGreatDoorL4
import Derived.Test.YtclgjkeeaopppaaGreatDoorV20
namespace Go.Proofs.YtclgjkeeaopppaaGreatDoor
open Go.V
attribute [local irreducible] G GO GP GPW GPK Ev Ef EfR Ent CB GB Enters

/-- What a map holds at a key. -/
def glk {κ α : Type} [DecidableEq κ] (m : List (κ × α)) (k : κ) : Option α := m.lookup k
def LedS.cur (S : LedS) (to item : Int) : List Lot := (glk S.stk (to, item)).getD []
def LedS.total (S : LedS) (item : Int) : Int := (glk S.tot item).getD 0
def LedS.id (S : LedS) : Int := S.shard * 4294967296 + S.nfl
def LedS.spawn (S : LedS) (to item n : Int) : LedS := { S with stk := gins S.stk (to, item) (S.cur to item ++ [(S.id, 0, n)]), tot := gins S.tot item (S.total item + n), nst := S.nst + 1, nfl := S.nfl + 1 }
/-- What holds of a ledger. -/
structure LedS.Ok (S : LedS) : Prop where
  shard : 0 ≤ S.shard ∧ S.shard < 12
  nst : S.nst < 65536
  nfl : S.nfl ≤ 1000000
  stk : ∀ p ∈ S.stk, p.2.length < 4096 ∧ ∀ l ∈ p.2, LotOk l
theorem LedS.Ok.cur {S : LedS} (h : S.Ok) (to item : Int) : (S.cur to item).length < 4096 ∧ ∀ l ∈ S.cur to item, LotOk l := by
  unfold LedS.cur
  cases hl : glk S.stk (to, item) with
  | none => simp
  | some x => exact h.stk _ (glookup_mem hl)
theorem glookup_map {κ α β : Type} [DecidableEq κ] (g : α → β) (k : κ) : ∀ m : List (κ × α), (m.map (fun p => (p.1, g p.2))).lookup k = (m.lookup k).map g
  | [] => rfl
  | (q, x) :: m => by
    simp only [List.map_cons, List.lookup_cons]
    by_cases h : k = q
    · subst h; simp
    · have hb : (k == q) = false := by simpa using h
      simp only [hb]
      exact glookup_map g k m
theorem gins_map {κ α β : Type} [DecidableEq κ] (g : α → β) (m : List (κ × α)) (k : κ) (a : α) : gins (m.map (fun p => (p.1, g p.2))) k (g a) = (gins m k a).map (fun p => (p.1, g p.2)) := by
  unfold gins
  have e : (m.map (fun p => (p.1, g p.2))).any (fun p => p.1 == k) = m.any (fun p => p.1 == k) := by simp [List.any_map, Function.comp_def]
  rw [e]
  split
  · simp only [List.map_map]
    apply List.map_congr_left
    intro p _
    by_cases hp : p.1 = k <;> simp [hp]
  · simp
theorem stk_cur {S : LedS} {x : LedX} (h : LedF S x) (to item : Int) : ((glk x.stk (to, item)).map (·.lots)).getD [] = S.cur to item := by
  unfold LedS.cur
  rw [← h.stk]
  exact (congrArg (fun o : Option (List Lot) => o.getD []) (glookup_map (fun s : Stk => s.lots) (to, item) x.stk)).symm

abbrev plL5_82_3 : List Stp := [.ev 0, .ev 1, .ev 2, .ev 3, .ev 4, .ev 5, .ev 6, .ev 7, .ev 8, .ev 9, .ev 10, .ev 11, .ev 12, .ev 13]
theorem now2_spec {L R : List HP} {b : Nat} {S : LedS} {x : LedX} [hp : PickObj L b tLed (ledCells S x) R] [hr : Rds L x.sad StpV encSt 7 x.steps] (ht : ∀ s ∈ x.steps, s.tick = 0) (hl : x.steps.length ≤ 100000) :
    Tri Tryz.prog 82 #[.pointer (some ⟨b, 0, none⟩)] L (fun v L' => v = .int .i64 0 ∧ L' = L) := by
  refine Tri.body (args := [.pointer (some ⟨b, 0, none⟩)]) 22 en82 Tryz.func82 rfl rfl rfl (by simp) ?_
  by_cases h0 : x.steps.length = 0
  · repeat (first | refine runB ?_ | intro _ | ((with_reducible apply G.atDraw); first | refine G.draw (N := 22) (id := 3) plL5_82_3 mixed (by kernel_rfl) ?_))
    exact KX.ends (by first | exact ResOk.tmps rfl | (repeat (first | exact ResOk.nil | apply ResOk.tmp rfl | apply ResOk.cell rfl (by rfl) | apply ResOk.cell1 rfl))) (Ent.refl _) ⟨rfl, rfl⟩
  · have e := ht _ (mem_get! (show ((x.steps.length : Int) - 1).toNat < x.steps.length by omega))
    repeat (first | refine runB ?_ | intro _ | ((with_reducible apply G.atDraw); first | refine G.draw (N := 22) (id := 3) plL5_82_3 mixed (by kernel_rfl) ?_))
    rw [e]
    exact KX.ends (by first | exact ResOk.tmps rfl | (repeat (first | exact ResOk.nil | apply ResOk.tmp rfl | apply ResOk.cell rfl (by rfl) | apply ResOk.cell1 rfl))) (Ent.refl _) ⟨rfl, rfl⟩
abbrev formS : Value := .agg #[.func (.func 152) #[] #[], .func (.func 153) #[] #[], .bool false, .func (.func 154) #[] #[]]
/-- What is asked of a spawn. -/
structure SpOk (S : LedS) (to item n : Int) : Prop where
  hto : 1 ≤ to ∧ to ≤ 1073741824
  hit : 0 ≤ item ∧ item < S.its.length
  hn : 1 ≤ n ∧ n ≤ 1099511627776
  htot : 0 ≤ S.total item ∧ S.total item + n ≤ 1099511627776
theorem lisAccount_spec {L : List HP} (n : Int) (h : 0 ≤ n ∧ n ≤ 1073741824) : Tri Tryz.prog 81 #[.int .i64 n] L (fun v L' => v = .bool true ∧ L' = L) := by
  obtain ⟨h1, h2⟩ := h
  refine Tri.body (args := [.int .i64 n]) 9 en81 Tryz.func81 rfl rfl rfl (by simp) ?_
  repeat (first | refine runB ?_ | intro _)
  exact KX.ends (by first | exact ResOk.tmps rfl | (repeat (first | exact ResOk.nil | apply ResOk.tmp rfl | apply ResOk.cell rfl (by rfl) | apply ResOk.cell1 rfl))) (Ent.refl _) ⟨by rw [dB_pos h2]; rfl, rfl⟩
theorem isWorld_spec {L : List HP} : Tri Tryz.prog 152 #[.int .i64 0] L (fun v L' => v = .bool true ∧ L' = L) := by
  refine Tri.body (args := [.int .i64 0]) 5 en152 Tryz.func152 rfl rfl rfl (by simp) ?_
  repeat (first | refine runB ?_ | intro _)
  exact KX.ends (by first | exact ResOk.tmps rfl | (repeat (first | exact ResOk.nil | apply ResOk.tmp rfl | apply ResOk.cell rfl (by rfl) | apply ResOk.cell1 rfl))) (Ent.refl _) ⟨by rw [dB_pos rfl]; rfl, rfl⟩
theorem isOwner_spec {L : List HP} (n : Int) (h : n ≠ 0) : Tri Tryz.prog 153 #[.int .i64 n] L (fun v L' => v = .bool true ∧ L' = L) := by
  refine Tri.body (args := [.int .i64 n]) 5 en153 Tryz.func153 rfl rfl rfl (by simp) ?_
  repeat (first | refine runB ?_ | intro _)
  exact KX.ends (by first | exact ResOk.tmps rfl | (repeat (first | exact ResOk.nil | apply ResOk.tmp rfl | apply ResOk.cell rfl (by rfl) | apply ResOk.cell1 rfl))) (Ent.refl _) ⟨by rw [dB_pos h]; rfl, rfl⟩
abbrev plL5_83_1 : List Stp := [.ev 0, .ev 1, .ev 2, .ev 3, .ev 4, .ev 5, .ev 6, .ev 7, .ev 8, .ev 9, .ev 10, .ev 11, .ev 12, .ev 13, .ev 14, .ev 15, .ev 16, .ev 17, .ev 18, .ev 19, .ev 20, .ev 21, .ev 22, .ev 23, .ev 24, .ev 25, .ev 26, .ef 27, .ev 28, .ev 29, .ev 30, .ev 31, .ev 32, .ef 33, .ev 34, .ev 35, .ev 36, .ev 37, .ev 38, .ev 39, .ev 40, .ev 41, .ev 42, .ev 43, .ev 44, .ev 45, .ev 46, .ev 47, .ef 48, .ev 49, .ev 50, .ev 51, .ev 52, .ev 53, .ev 54, .ev 55, .ef 56, .ev 57, .ev 58]
abbrev plL5_83_5 : List Stp := [.ev 0, .ev 1, .ef 2, .ev 3, .ev 4, .ev 5, .ev 7, .ev 8, .ef 6, .ev 9, .ev 10, .ev 11, .ev 12, .ev 13, .ev 16, .ev 17, .ef 14, .ef 15, .ev 18, .ev 19, .ev 20]
theorem fitsS_spec {L R : List HP} {b : Nat} {S : LedS} {x : LedX} [hp : PickObj L b tLed (ledCells S x) R] {to item n : Int} (h : SpOk S to item n) :
    Tri Tryz.prog 83 #[.pointer (some ⟨b, 0, none⟩), .agg (encMv (to, item, n)).toArray, formS] L (fun v L' => v = .bool true ∧ L' = L) := by
  obtain ⟨⟨hto1, hto2⟩, ⟨hit1, hit2⟩, ⟨hn1, hn2⟩, _⟩ := h
  have q1 : ((to, item, n) : Int × Int × Int).fst = to := rfl
  have q2 : ((to, item, n) : Int × Int × Int).snd.fst = item := rfl
  have q3 : ((to, item, n) : Int × Int × Int).snd.snd = n := rfl
  refine Tri.body (args := [.pointer (some ⟨b, 0, none⟩), .agg (encMv (to, item, n)).toArray, formS]) 93 en83 Tryz.func83 rfl rfl rfl (by simp) ?_
  repeat (first | refine runB ?_ | intro _ | ((with_reducible apply G.atDraw); first | refine G.draw (N := 93) (id := 1) plL5_83_1 mixed (by kernel_rfl) ?_ | refine G.draw (N := 93) (id := 5) plL5_83_5 mixed (by kernel_rfl) ?_))
  (first | ((with_reducible apply GO.atPlain); first | refine GO.ef (Ef.callAll (lisAccount_spec 0 (by decide)) rfl) (by decide) ?_ | refine GO.ef (by exact Ef.callAll (lisAccount_spec 0 (by decide)) rfl) (by decide) ?_) | ((with_reducible apply GPW.atEf); first | refine GPW.ef (Ef.callAll (lisAccount_spec 0 (by decide)) rfl) (by decide) ?_ | refine GPW.ef (by exact Ef.callAll (lisAccount_spec 0 (by decide)) rfl) (by decide) ?_))
  rintro _ _ ⟨rfl, rfl⟩
  repeat (first | refine runB ?_ | intro _ | ((with_reducible apply G.atDraw); first | refine G.draw (N := 93) (id := 1) plL5_83_1 mixed (by kernel_rfl) ?_ | refine G.draw (N := 93) (id := 5) plL5_83_5 mixed (by kernel_rfl) ?_))
  (first | ((with_reducible apply GO.atPlain); first | refine GO.ef (Ef.callAll (lisAccount_spec to (by omega)) rfl) (by decide) ?_ | refine GO.ef (by exact Ef.callAll (lisAccount_spec to (by omega)) rfl) (by decide) ?_) | ((with_reducible apply GPW.atEf); first | refine GPW.ef (Ef.callAll (lisAccount_spec to (by omega)) rfl) (by decide) ?_ | refine GPW.ef (by exact Ef.callAll (lisAccount_spec to (by omega)) rfl) (by decide) ?_))
  rintro _ _ ⟨rfl, rfl⟩
  repeat (first | refine runB ?_ | intro _ | ((with_reducible apply G.atDraw); first | refine G.draw (N := 93) (id := 1) plL5_83_1 mixed (by kernel_rfl) ?_ | refine G.draw (N := 93) (id := 5) plL5_83_5 mixed (by kernel_rfl) ?_))
  (first | ((with_reducible apply GO.atPlain); first | refine GO.ef (Ef.callFnW rfl rfl (isWorld_spec)) (by decide) ?_ | refine GO.ef (by exact Ef.callFnW rfl rfl (isWorld_spec)) (by decide) ?_) | ((with_reducible apply GPW.atEf); first | refine GPW.ef (Ef.callFnW rfl rfl (isWorld_spec)) (by decide) ?_ | refine GPW.ef (by exact Ef.callFnW rfl rfl (isWorld_spec)) (by decide) ?_))
  rintro _ _ ⟨rfl, rfl⟩
  repeat (first | refine runB ?_ | intro _ | ((with_reducible apply G.atDraw); first | refine G.draw (N := 93) (id := 1) plL5_83_1 mixed (by kernel_rfl) ?_ | refine G.draw (N := 93) (id := 5) plL5_83_5 mixed (by kernel_rfl) ?_))
  (first | ((with_reducible apply GO.atPlain); first | refine GO.ef (Ef.callFnW rfl rfl (isOwner_spec to (by omega))) (by decide) ?_ | refine GO.ef (by exact Ef.callFnW rfl rfl (isOwner_spec to (by omega))) (by decide) ?_) | ((with_reducible apply GPW.atEf); first | refine GPW.ef (Ef.callFnW rfl rfl (isOwner_spec to (by omega))) (by decide) ?_ | refine GPW.ef (by exact Ef.callFnW rfl rfl (isOwner_spec to (by omega))) (by decide) ?_))
  rintro _ _ ⟨rfl, rfl⟩
  repeat (first | refine runB ?_ | intro _ | ((with_reducible apply G.atDraw); first | refine G.draw (N := 93) (id := 1) plL5_83_1 mixed (by kernel_rfl) ?_ | refine G.draw (N := 93) (id := 5) plL5_83_5 mixed (by kernel_rfl) ?_))
  exact KX.ends (by first | exact ResOk.tmps rfl | (repeat (first | exact ResOk.nil | apply ResOk.tmp rfl | apply ResOk.cell rfl (by rfl) | apply ResOk.cell1 rfl))) (by repeat (first | exact Ent.refl _ | exact Ent.nil _ | refine Ent.take' ?_ | refine Ent.trans Ent.drop ?_)) ⟨by rw [dB_pos (show ((0 : Nat) : Int) = 0 from rfl)]; rfl, rfl⟩
abbrev plL5_61_2 : List Stp := [.ev 0, .ev 1, .ev 2, .ev 3, .ev 4, .ef 5, .ev 6, .ev 7, .ev 8, .ev 9, .ev 10, .ev 11, .ev 12, .ev 13, .ev 14, .ev 15, .ev 16, .ev 17, .ev 18, .ev 19, .ev 20, .ev 21, .ef 22, .ev 23, .ev 24, .ev 25, .ev 26, .ev 27, .ev 28, .ev 29, .ev 30, .ev 31, .ev 32, .ev 33, .ev 34, .ev 35, .ev 36]
theorem possS_spec {L R : List HP} {b : Nat} {S : LedS} {x : LedX} [hp : PickObj L b tLed (ledCells S x) R] [hr : Rds L x.sad StpV encSt 7 x.steps] (ht : ∀ s ∈ x.steps, s.tick = 0) (hl : x.steps.length ≤ 100000) {mad : Option Addr} {mcap : Nat} {to item n : Int} [hrm : Rds L mad (Int × Int × Int) encMv 5 [(to, item, n)]] (h : SpOk S to item n) :
    Tri Tryz.prog 61 #[.pointer (some ⟨b, 0, none⟩), .agg #[.int .i64 0, .int .i64 0, .int .i64 0, .int .i64 0, .int .i64 (-1), .int .i64 0, .slice mad 1 mcap]] L (fun v L' => v = .bool true ∧ L' = L) := by
  have q0 : ([((to, item, n) : Int × Int × Int)]).length = 1 := rfl
  have h00 : ([(to, item, n)] : List (Int × Int × Int))[(0 : Int).toNat]! = (to, item, n) := rfl
  refine Tri.body (args := [.pointer (some ⟨b, 0, none⟩), .agg #[.int .i64 0, .int .i64 0, .int .i64 0, .int .i64 0, .int .i64 (-1), .int .i64 0, .slice mad 1 mcap]]) 70 en61 Tryz.func61 rfl rfl rfl (by simp) ?_
  repeat (first | refine runB ?_ | intro _ | ((with_reducible apply G.atDraw); first | refine G.draw (N := 70) (id := 2) plL5_61_2 mixed (by kernel_rfl) ?_) | ((with_reducible apply GO.atPlain); refine GO.callIn en80 Tryz.func80 rfl rfl rfl rfl (by simp) (by decide) ?_) | ((with_reducible apply GPW.atEf); refine GPW.callIn en80 Tryz.func80 rfl rfl rfl rfl (by simp) (by decide) ?_) | ((with_reducible apply GO.atPlain); refine GO.callFnIn rfl en80 Tryz.func80 rfl rfl rfl rfl (by simp) (by decide) ?_) | ((with_reducible apply GPW.atEf); refine GPW.callFnIn rfl en80 Tryz.func80 rfl rfl rfl rfl (by simp) (by decide) ?_) | ((with_reducible apply GO.atPlain); refine GO.callIn en154 Tryz.func154 rfl rfl rfl rfl (by simp) (by decide) ?_) | ((with_reducible apply GPW.atEf); refine GPW.callIn en154 Tryz.func154 rfl rfl rfl rfl (by simp) (by decide) ?_) | ((with_reducible apply GO.atPlain); refine GO.callFnIn rfl en154 Tryz.func154 rfl rfl rfl rfl (by simp) (by decide) ?_) | ((with_reducible apply GPW.atEf); refine GPW.callFnIn rfl en154 Tryz.func154 rfl rfl rfl rfl (by simp) (by decide) ?_) | ((with_reducible apply KX.atIn); first | refine KX.in0 (.inl rfl) ?_ | refine KX.in0 (.inr rfl) ?_ | refine KX.in1 (.inl rfl) rfl ?_ | refine KX.in2 (.inl rfl) rfl rfl ?_ | refine KX.in3 (.inl rfl) rfl rfl rfl ?_ | refine KX.inC (.inl rfl) rfl (by rfl) ?_ | refine KX.inC1 (.inl rfl) rfl (by rfl) rfl ?_))
  (first | ((with_reducible apply GO.atPlain); first | refine GO.ef (Ef.callAll (lisAccount_spec 0 (by decide)) rfl) (by decide) ?_ | refine GO.ef (by exact Ef.callAll (lisAccount_spec 0 (by decide)) rfl) (by decide) ?_) | ((with_reducible apply GPW.atEf); first | refine GPW.ef (Ef.callAll (lisAccount_spec 0 (by decide)) rfl) (by decide) ?_ | refine GPW.ef (by exact Ef.callAll (lisAccount_spec 0 (by decide)) rfl) (by decide) ?_))
  rintro _ _ ⟨rfl, rfl⟩
  repeat (first | refine runB ?_ | intro _ | ((with_reducible apply G.atDraw); first | refine G.draw (N := 70) (id := 2) plL5_61_2 mixed (by kernel_rfl) ?_) | ((with_reducible apply GO.atPlain); refine GO.callIn en80 Tryz.func80 rfl rfl rfl rfl (by simp) (by decide) ?_) | ((with_reducible apply GPW.atEf); refine GPW.callIn en80 Tryz.func80 rfl rfl rfl rfl (by simp) (by decide) ?_) | ((with_reducible apply GO.atPlain); refine GO.callFnIn rfl en80 Tryz.func80 rfl rfl rfl rfl (by simp) (by decide) ?_) | ((with_reducible apply GPW.atEf); refine GPW.callFnIn rfl en80 Tryz.func80 rfl rfl rfl rfl (by simp) (by decide) ?_) | ((with_reducible apply GO.atPlain); refine GO.callIn en154 Tryz.func154 rfl rfl rfl rfl (by simp) (by decide) ?_) | ((with_reducible apply GPW.atEf); refine GPW.callIn en154 Tryz.func154 rfl rfl rfl rfl (by simp) (by decide) ?_) | ((with_reducible apply GO.atPlain); refine GO.callFnIn rfl en154 Tryz.func154 rfl rfl rfl rfl (by simp) (by decide) ?_) | ((with_reducible apply GPW.atEf); refine GPW.callFnIn rfl en154 Tryz.func154 rfl rfl rfl rfl (by simp) (by decide) ?_) | ((with_reducible apply KX.atIn); first | refine KX.in0 (.inl rfl) ?_ | refine KX.in0 (.inr rfl) ?_ | refine KX.in1 (.inl rfl) rfl ?_ | refine KX.in2 (.inl rfl) rfl rfl ?_ | refine KX.in3 (.inl rfl) rfl rfl rfl ?_ | refine KX.inC (.inl rfl) rfl (by rfl) ?_ | refine KX.inC1 (.inl rfl) rfl (by rfl) rfl ?_))
  (first | ((with_reducible apply GO.atPlain); first | refine GO.ef (Ef.callAll (now2_spec (b := b) (S := S) (x := x) ht hl) rfl) (by decide) ?_ | refine GO.ef (by exact Ef.callAll (now2_spec (b := b) (S := S) (x := x) ht hl) rfl) (by decide) ?_) | ((with_reducible apply GPW.atEf); first | refine GPW.ef (Ef.callAll (now2_spec (b := b) (S := S) (x := x) ht hl) rfl) (by decide) ?_ | refine GPW.ef (by exact Ef.callAll (now2_spec (b := b) (S := S) (x := x) ht hl) rfl) (by decide) ?_))
  rintro _ _ ⟨rfl, rfl⟩
  repeat (first | refine runB ?_ | intro _ | ((with_reducible apply G.atDraw); first | refine G.draw (N := 70) (id := 2) plL5_61_2 mixed (by kernel_rfl) ?_) | ((with_reducible apply GO.atPlain); refine GO.callIn en80 Tryz.func80 rfl rfl rfl rfl (by simp) (by decide) ?_) | ((with_reducible apply GPW.atEf); refine GPW.callIn en80 Tryz.func80 rfl rfl rfl rfl (by simp) (by decide) ?_) | ((with_reducible apply GO.atPlain); refine GO.callFnIn rfl en80 Tryz.func80 rfl rfl rfl rfl (by simp) (by decide) ?_) | ((with_reducible apply GPW.atEf); refine GPW.callFnIn rfl en80 Tryz.func80 rfl rfl rfl rfl (by simp) (by decide) ?_) | ((with_reducible apply GO.atPlain); refine GO.callIn en154 Tryz.func154 rfl rfl rfl rfl (by simp) (by decide) ?_) | ((with_reducible apply GPW.atEf); refine GPW.callIn en154 Tryz.func154 rfl rfl rfl rfl (by simp) (by decide) ?_) | ((with_reducible apply GO.atPlain); refine GO.callFnIn rfl en154 Tryz.func154 rfl rfl rfl rfl (by simp) (by decide) ?_) | ((with_reducible apply GPW.atEf); refine GPW.callFnIn rfl en154 Tryz.func154 rfl rfl rfl rfl (by simp) (by decide) ?_) | ((with_reducible apply KX.atIn); first | refine KX.in0 (.inl rfl) ?_ | refine KX.in0 (.inr rfl) ?_ | refine KX.in1 (.inl rfl) rfl ?_ | refine KX.in2 (.inl rfl) rfl rfl ?_ | refine KX.in3 (.inl rfl) rfl rfl rfl ?_ | refine KX.inC (.inl rfl) rfl (by rfl) ?_ | refine KX.inC1 (.inl rfl) rfl (by rfl) rfl ?_))
  refine G.unroll 2 (GR.step ?_)
  repeat (first | refine runB ?_ | intro _ | ((with_reducible apply G.atDraw); first | refine G.draw (N := 70) (id := 2) plL5_61_2 mixed (by kernel_rfl) ?_) | ((with_reducible apply GO.atPlain); refine GO.callIn en80 Tryz.func80 rfl rfl rfl rfl (by simp) (by decide) ?_) | ((with_reducible apply GPW.atEf); refine GPW.callIn en80 Tryz.func80 rfl rfl rfl rfl (by simp) (by decide) ?_) | ((with_reducible apply GO.atPlain); refine GO.callFnIn rfl en80 Tryz.func80 rfl rfl rfl rfl (by simp) (by decide) ?_) | ((with_reducible apply GPW.atEf); refine GPW.callFnIn rfl en80 Tryz.func80 rfl rfl rfl rfl (by simp) (by decide) ?_) | ((with_reducible apply GO.atPlain); refine GO.callIn en154 Tryz.func154 rfl rfl rfl rfl (by simp) (by decide) ?_) | ((with_reducible apply GPW.atEf); refine GPW.callIn en154 Tryz.func154 rfl rfl rfl rfl (by simp) (by decide) ?_) | ((with_reducible apply GO.atPlain); refine GO.callFnIn rfl en154 Tryz.func154 rfl rfl rfl rfl (by simp) (by decide) ?_) | ((with_reducible apply GPW.atEf); refine GPW.callFnIn rfl en154 Tryz.func154 rfl rfl rfl rfl (by simp) (by decide) ?_) | ((with_reducible apply KX.atIn); first | refine KX.in0 (.inl rfl) ?_ | refine KX.in0 (.inr rfl) ?_ | refine KX.in1 (.inl rfl) rfl ?_ | refine KX.in2 (.inl rfl) rfl rfl ?_ | refine KX.in3 (.inl rfl) rfl rfl rfl ?_ | refine KX.inC (.inl rfl) rfl (by rfl) ?_ | refine KX.inC1 (.inl rfl) rfl (by rfl) rfl ?_))
  rw [h00]
  (first | ((with_reducible apply GO.atPlain); first | refine GO.ef (Ef.callAll (fitsS_spec (b := b) (S := S) (x := x) h) rfl) (by decide) ?_ | refine GO.ef (by exact Ef.callAll (fitsS_spec (b := b) (S := S) (x := x) h) rfl) (by decide) ?_) | ((with_reducible apply GPW.atEf); first | refine GPW.ef (Ef.callAll (fitsS_spec (b := b) (S := S) (x := x) h) rfl) (by decide) ?_ | refine GPW.ef (by exact Ef.callAll (fitsS_spec (b := b) (S := S) (x := x) h) rfl) (by decide) ?_))
  rintro _ _ ⟨rfl, rfl⟩
  repeat (first | refine runB ?_ | intro _ | ((with_reducible apply G.atDraw); first | refine G.draw (N := 70) (id := 2) plL5_61_2 mixed (by kernel_rfl) ?_) | ((with_reducible apply GO.atPlain); refine GO.callIn en80 Tryz.func80 rfl rfl rfl rfl (by simp) (by decide) ?_) | ((with_reducible apply GPW.atEf); refine GPW.callIn en80 Tryz.func80 rfl rfl rfl rfl (by simp) (by decide) ?_) | ((with_reducible apply GO.atPlain); refine GO.callFnIn rfl en80 Tryz.func80 rfl rfl rfl rfl (by simp) (by decide) ?_) | ((with_reducible apply GPW.atEf); refine GPW.callFnIn rfl en80 Tryz.func80 rfl rfl rfl rfl (by simp) (by decide) ?_) | ((with_reducible apply GO.atPlain); refine GO.callIn en154 Tryz.func154 rfl rfl rfl rfl (by simp) (by decide) ?_) | ((with_reducible apply GPW.atEf); refine GPW.callIn en154 Tryz.func154 rfl rfl rfl rfl (by simp) (by decide) ?_) | ((with_reducible apply GO.atPlain); refine GO.callFnIn rfl en154 Tryz.func154 rfl rfl rfl rfl (by simp) (by decide) ?_) | ((with_reducible apply GPW.atEf); refine GPW.callFnIn rfl en154 Tryz.func154 rfl rfl rfl rfl (by simp) (by decide) ?_) | ((with_reducible apply KX.atIn); first | refine KX.in0 (.inl rfl) ?_ | refine KX.in0 (.inr rfl) ?_ | refine KX.in1 (.inl rfl) rfl ?_ | refine KX.in2 (.inl rfl) rfl rfl ?_ | refine KX.in3 (.inl rfl) rfl rfl rfl ?_ | refine KX.inC (.inl rfl) rfl (by rfl) ?_ | refine KX.inC1 (.inl rfl) rfl (by rfl) rfl ?_))
  refine GR.step ?_
  repeat (first | refine runB ?_ | intro _ | ((with_reducible apply G.atDraw); first | refine G.draw (N := 70) (id := 2) plL5_61_2 mixed (by kernel_rfl) ?_) | ((with_reducible apply GO.atPlain); refine GO.callIn en80 Tryz.func80 rfl rfl rfl rfl (by simp) (by decide) ?_) | ((with_reducible apply GPW.atEf); refine GPW.callIn en80 Tryz.func80 rfl rfl rfl rfl (by simp) (by decide) ?_) | ((with_reducible apply GO.atPlain); refine GO.callFnIn rfl en80 Tryz.func80 rfl rfl rfl rfl (by simp) (by decide) ?_) | ((with_reducible apply GPW.atEf); refine GPW.callFnIn rfl en80 Tryz.func80 rfl rfl rfl rfl (by simp) (by decide) ?_) | ((with_reducible apply GO.atPlain); refine GO.callIn en154 Tryz.func154 rfl rfl rfl rfl (by simp) (by decide) ?_) | ((with_reducible apply GPW.atEf); refine GPW.callIn en154 Tryz.func154 rfl rfl rfl rfl (by simp) (by decide) ?_) | ((with_reducible apply GO.atPlain); refine GO.callFnIn rfl en154 Tryz.func154 rfl rfl rfl rfl (by simp) (by decide) ?_) | ((with_reducible apply GPW.atEf); refine GPW.callFnIn rfl en154 Tryz.func154 rfl rfl rfl rfl (by simp) (by decide) ?_) | ((with_reducible apply KX.atIn); first | refine KX.in0 (.inl rfl) ?_ | refine KX.in0 (.inr rfl) ?_ | refine KX.in1 (.inl rfl) rfl ?_ | refine KX.in2 (.inl rfl) rfl rfl ?_ | refine KX.in3 (.inl rfl) rfl rfl rfl ?_ | refine KX.inC (.inl rfl) rfl (by rfl) ?_ | refine KX.inC1 (.inl rfl) rfl (by rfl) rfl ?_))
  exact KX.ends (by first | exact ResOk.tmps rfl | (repeat (first | exact ResOk.nil | apply ResOk.tmp rfl | apply ResOk.cell rfl (by rfl) | apply ResOk.cell1 rfl))) (by repeat (first | exact Ent.refl _ | exact Ent.nil _ | refine Ent.take' ?_ | refine Ent.trans Ent.drop ?_)) ⟨by rw [dB_pos (show (0 : Int) = 0 from rfl)]; rfl, rfl⟩
end Go.Proofs.YtclgjkeeaopppaaGreatDoor
