/- Contracts: what an account has; the exchange that moves it. -/
import Derived.Test.YtclgjkeeaopppaaGreatDoorL7
namespace Go.Proofs.YtclgjkeeaopppaaGreatDoor
open Go.V
attribute [local irreducible] G GO GP GPW GPK Ev Ef EfR Ent CB GB Enters

/-- The number of units of lots. -/
def lsum (xs : List Lot) : Int := xs.foldl (fun s l => s + l.2.2) 0
theorem lsum_take_succ (xs : List Lot) {i : Nat} (h : i < xs.length) : lsum (xs.take (i + 1)) = lsum (xs.take i) + xs[i]!.2.2 := by
  unfold lsum
  rw [List.take_succ_eq_append_getElem h, List.foldl_append, getElem!_of h]
  rfl
theorem lsum_bd {xs : List Lot} (h : ∀ l ∈ xs, LotOk l) : ∀ i, i ≤ xs.length → 0 ≤ lsum (xs.take i) ∧ lsum (xs.take i) ≤ (i : Int) * 1099511627776 := by
  intro i
  induction i with
  | zero => intro _; simp [lsum]
  | succ i ih =>
    intro hi
    obtain ⟨h1, h2⟩ := ih (by omega)
    obtain ⟨o1, o2, o3, o4, o5⟩ := h _ (mem_get! (show i < xs.length by omega))
    rw [lsum_take_succ xs (by omega)]
    have : ((i + 1 : Nat) : Int) * 1099511627776 = (i : Int) * 1099511627776 + 1099511627776 := by omega
    rw [this]
    omega
theorem stotal_spec {L : List HP} (ad : Option Addr) (n c : Nat) (xs : List Lot) [Rds L ad Lot encLot 3 xs] (hn : n = xs.length) (hb : xs.length ≤ 4096) (hx : ∀ l ∈ xs, LotOk l) :
    Tri Tryz.prog 45 #[.slice ad n c] L (fun v L' => v = .int .i64 (lsum xs) ∧ L' = L) := by
  refine Tri.body (args := [.slice ad n c]) 18 en45 Tryz.func45 rfl rfl rfl (by simp) ?_
  repeat (first | refine runB ?_ | intro _)
  refine G.loop (α := Nat) (fun i => i ≤ n) (fun i => [(0, .slice ad n c), (3, .int .i64 (lsum (xs.take i))), (6, .slice ad n c), (7, .int .i64 n), (8, .int .i64 (i : Int))]) (fun _ => L) (fun i => n - i) 0 (Nat.zero_le _) (by repeat (first | exact EnvSub.nil _ | refine EnvSub.cons rfl ?_)) (Ent.refl _) ?_
  intro i hi
  by_cases hlt : i < n
  case neg =>
    rw [List.take_of_length_le (show xs.length ≤ i by omega)]
    repeat (first | refine runB ?_ | intro _)
    exact KX.ends (by first | exact ResOk.tmps rfl | (repeat (first | exact ResOk.nil | apply ResOk.tmp rfl | apply ResOk.cell rfl (by rfl) | apply ResOk.cell1 rfl))) (Ent.refl _) ⟨rfl, rfl⟩
  have hb1 := lsum_bd hx i (by omega)
  obtain ⟨o1, o2, o3, o4, o5⟩ := hx _ (mem_get! (show i < xs.length by omega))
  have hs := lsum_take_succ xs (show i < xs.length by omega)
  have hm : (i : Int) * 1099511627776 ≤ 4096 * 1099511627776 := Int.mul_le_mul_of_nonneg_right (by omega) (by decide)
  repeat (first | refine runB ?_ | intro _)
  rw [Int.toNat_natCast]
  repeat (first | refine runB ?_ | intro _)
  refine ⟨i + 1, by omega, by omega, ?_, Ent.drop⟩
  rw [hs, show ((i + 1 : Nat) : Int) = (i : Int) + 1 by omega]
  exact (by repeat (first | exact EnvSub.nil _ | refine EnvSub.cons rfl ?_))

def LedS.bal (S : LedS) (a i : Int) : Int := lsum (S.cur a i)
theorem LedS.Ok.bal {S : LedS} (h : S.Ok) (a i : Int) : 0 ≤ S.bal a i ∧ S.bal a i ≤ 4503599627370496 := by
  obtain ⟨h1, h2⟩ := h.cur a i
  have := lsum_bd h2 (S.cur a i).length (Nat.le_refl _)
  rw [List.take_length] at this
  unfold LedS.bal
  omega
theorem balance_spec {L : List HP} (b : Nat) (S : LedS) (hS : S.Ok) (a i : Int) :
    Tri Tryz.prog 26 #[.pointer (some ⟨b, 0, none⟩), .int .i64 a, .int .i64 i] (LedR b S :: L) (fun v L' => v = .int .i64 (S.bal a i) ∧ L' = LedR b S :: L) := by
  refine Tri.body (args := [.pointer (some ⟨b, 0, none⟩), .int .i64 a, .int .i64 i]) 16 en26 Tryz.func26 rfl rfl rfl (by simp) ?_
  refine G.openX (f := ledA b S) ?_
  intro x
  simp only [ledA, ledL, ledCells, List.cons_append, List.nil_append]
  refine G.pureE ?_
  intro hF
  have hsk := sk0_lots hF a i
  obtain ⟨hc1, hc2⟩ := hS.cur a i
  refine G.ent (Ent.at (A := allP (fun p : (Int × Int) × Stk => stkP p.2) x.stk) (sk0_ent (a, i))) ?_
  have hv := sk0_v x (a, i)
  unfold LedS.bal
  generalize sk0 x (a, i) = sk at hsk hv
  rw [← hsk] at hc1 hc2 ⊢
  repeat (first | refine runB ?_ | intro _)
  (first | ((with_reducible apply GO.atPlain); first | refine GO.ev (Ev.lookG1 rfl rfl) (by decide) ?_ | refine GO.ev (by exact Ev.lookG1 rfl rfl) (by decide) ?_) | ((with_reducible apply GPW.atEv); first | refine GPW.evP (Ev.lookG1 rfl rfl) (by decide) ?_ | refine GPW.evP (by exact Ev.lookG1 rfl rfl) (by decide) ?_) | ((with_reducible apply GPW.atEv); first | refine GPW.evL (Ev.lookG1 rfl rfl) (by decide) ?_ | refine GPW.evL (by exact Ev.lookG1 rfl rfl) (by decide) ?_))
  rw [hv]
  simp only [Stk.v]
  (first | ((with_reducible apply GO.atPlain); first | refine GO.ef (Ef.callAll (stotal_spec sk.ad _ sk.cap sk.lots rfl (by omega) hc2) rfl) (by decide) ?_ | refine GO.ef (by exact Ef.callAll (stotal_spec sk.ad _ sk.cap sk.lots rfl (by omega) hc2) rfl) (by decide) ?_) | ((with_reducible apply GPW.atEf); first | refine GPW.ef (Ef.callAll (stotal_spec sk.ad _ sk.cap sk.lots rfl (by omega) hc2) rfl) (by decide) ?_ | refine GPW.ef (by exact Ef.callAll (stotal_spec sk.ad _ sk.cap sk.lots rfl (by omega) hc2) rfl) (by decide) ?_))
  rintro _ _ ⟨rfl, rfl⟩
  repeat (first | refine runB ?_ | intro _)
  refine KX.ends (by first | exact ResOk.tmps rfl | (repeat (first | exact ResOk.nil | apply ResOk.tmp rfl | apply ResOk.cell rfl (by rfl) | apply ResOk.cell1 rfl))) ?_ ⟨rfl, rfl⟩
  refine Ent.trans ?_ (ledClose x hF)
  repeat (first | exact Ent.refl _ | exact Ent.nil _ | refine Ent.take' ?_ | refine Ent.trans Ent.drop ?_)
end Go.Proofs.YtclgjkeeaopppaaGreatDoor
