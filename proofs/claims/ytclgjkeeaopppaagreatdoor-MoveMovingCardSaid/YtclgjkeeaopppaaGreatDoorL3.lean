/- Contracts: the catalog of the model of exchanges, its copy, a new ledger. -/
import Derived.Test.YtclgjkeeaopppaaGreatDoorL2
namespace Go.Proofs.YtclgjkeeaopppaaGreatDoor
open Go.V
attribute [local irreducible] G GO GP GPW GPK Ev Ef EfR Ent CB GB Enters

def nGold : ByteArray := ⟨#[103, 111, 108, 100]⟩
def nOre : ByteArray := ⟨#[111, 114, 101]⟩
def nDust : ByteArray := ⟨#[100, 117, 115, 116]⟩
def nGem : ByteArray := ⟨#[103, 101, 109]⟩
def its4 : List Itm := [⟨nGold, false, true⟩, ⟨nOre, false, false⟩, ⟨nDust, true, false⟩, ⟨nGem, false, false⟩]
theorem word_of (s : ByteArray) (h1 : 1 ≤ s.size ∧ s.size ≤ 16) (h2 : kindM s 0 = 3) (h3 : ∀ i : Nat, i < s.size → kindM s i = 3 ∨ kindM s i = 4 ∨ kindM s i = 5) : IsWord s := ⟨h1, h2, h3⟩
theorem wGold : IsWord nGold := word_of _ (by decide +kernel) (by decide +kernel) (by decide +kernel)
theorem wOre : IsWord nOre := word_of _ (by decide +kernel) (by decide +kernel) (by decide +kernel)
theorem wDust : IsWord nDust := word_of _ (by decide +kernel) (by decide +kernel) (by decide +kernel)
theorem wGem : IsWord nGem := word_of _ (by decide +kernel) (by decide +kernel) (by decide +kernel)
theorem its4_ok : ItsOk its4 := ⟨by decide, by
  intro x hx
  simp only [its4, List.mem_cons, List.not_mem_nil, or_false] at hx
  rcases hx with rfl | rfl | rfl | rfl
  · exact wGold
  · exact wOre
  · exact wDust
  · exact wGem, by decide +kernel⟩

theorem refCatalog_spec {L : List HP} : Tri Tryz.prog 38 #[] L (fun v L' => ∃ ad cap, v = catV ad 4 cap ∧ L' = osl encIt 7 tIt ad cap its4 :: L) := by
  refine Tri.body (args := []) 7 en38 Tryz.func38 rfl rfl rfl (by simp) ?_
  repeat (first | refine run ?_ | intro _)
  rename_i b0 b5
  refine KX.ends (by first | exact ResOk.cell rfl (by rfl) (ResOk.nil) | exact ResOk.cell1 rfl (ResOk.nil)) ?_ ⟨some ⟨b5, 0, none⟩, 4, rfl, rfl⟩
  refine Ent.trans Ent.drop ?_
  exact Ent.objSl (enc := encIt) (sz := 7) (xs := its4) rfl rfl (by intro x hx; rfl) (by decide)

theorem cloneIt_spec {L : List HP} (ad : Option Addr) (n c : Nat) (xs : List Itm) [Rds L ad Itm encIt 7 xs] (hn : n = xs.length) (hb : n ≤ 1000000) :
    Tri Tryz.prog 73 #[.slice ad n c] L (fun v L' => ∃ ad' cap', v = .slice ad' xs.length cap' ∧ L' = osl encIt 7 tIt ad' cap' xs :: L) := by
  refine Tri.body (args := [.slice ad n c]) 8 en73 Tryz.func73 rfl rfl rfl (by simp) ?_
  repeat' (first | refine run ?_ | intro _ | with_reducible refine CB.dec (fun _ => ?_) (fun _ => ?_) | with_reducible refine GB.dec (fun _ => ?_) (fun _ => ?_) | with_reducible refine CB.bool (fun _ => ?_) (fun _ => ?_) | with_reducible refine GB.bool (fun _ => ?_) (fun _ => ?_))
  · have h : ad = none := by assumption
    subst h
    refine KX.fact (.inl rfl) (rds_nil (L := L) (xs := xs)) ?_
    intro hx
    subst hx
    refine KX.ends (by first | exact ResOk.tmps rfl | (repeat (first | exact ResOk.nil | apply ResOk.tmp rfl | apply ResOk.cell rfl (by rfl) | apply ResOk.cell1 rfl))) (Ent.nilSl encIt 7 tIt) ⟨_, _, rfl, rfl⟩
  · refine GO.ent (Ent.objSl (enc := encIt) (sz := 7) (xs := []) rfl rfl (by simp) (by simp)) ?_
    (first | ((with_reducible apply GO.atPlain); first | refine GO.ef (Ef.appendS rfl rfl rfl rfl hn (fun e _ => encIt_one e) (by simp; omega) (by simp; omega)) (by decide) ?_ | refine GO.ef (by exact Ef.appendS rfl rfl rfl rfl hn (fun e _ => encIt_one e) (by simp; omega) (by simp; omega)) (by decide) ?_) | ((with_reducible apply GPW.atEf); first | refine GPW.ef (Ef.appendS rfl rfl rfl rfl hn (fun e _ => encIt_one e) (by simp; omega) (by simp; omega)) (by decide) ?_ | refine GPW.ef (by exact Ef.appendS rfl rfl rfl rfl hn (fun e _ => encIt_one e) (by simp; omega) (by simp; omega)) (by decide) ?_) | ((with_reducible apply GO.atUnit); first | refine GO.efu (Ef.appendS rfl rfl rfl rfl hn (fun e _ => encIt_one e) (by simp; omega) (by simp; omega)) ?_ | refine GO.efu (by exact Ef.appendS rfl rfl rfl rfl hn (fun e _ => encIt_one e) (by simp; omega) (by simp; omega)) ?_) | ((with_reducible apply GPW.atEfu); first | refine GPW.efu (Ef.appendS rfl rfl rfl rfl hn (fun e _ => encIt_one e) (by simp; omega) (by simp; omega)) ?_ | refine GPW.efu (by exact Ef.appendS rfl rfl rfl rfl hn (fun e _ => encIt_one e) (by simp; omega) (by simp; omega)) ?_))
    rintro _ _ ⟨ad', cap', rfl, rfl⟩
    repeat (first | refine run ?_ | intro _)
    refine KX.ends (by first | exact ResOk.tmps rfl | (repeat (first | exact ResOk.nil | apply ResOk.tmp rfl | apply ResOk.cell rfl (by rfl) | apply ResOk.cell1 rfl))) (Ent.refl _) ⟨ad', cap', rfl, rfl⟩
theorem eachR_spec {L : List HP} (v : Value) : Tri Tryz.prog 74 #[.slice none 0 0, v] L (fun u L' => u = .slice none 0 0 ∧ L' = L) := by
  refine Tri.body (args := [.slice none 0 0, v]) 29 en74 Tryz.func74 rfl rfl rfl (by simp) ?_
  repeat (first | refine run ?_ | intro _)
  exact KX.ends (by first | exact ResOk.tmps rfl | (repeat (first | exact ResOk.nil | apply ResOk.tmp rfl | apply ResOk.cell rfl (by rfl) | apply ResOk.cell1 rfl))) (Ent.refl _) ⟨rfl, rfl⟩
theorem eachT_spec {L : List HP} (v : Value) : Tri Tryz.prog 76 #[.slice none 0 0, v] L (fun u L' => u = .slice none 0 0 ∧ L' = L) := by
  refine Tri.body (args := [.slice none 0 0, v]) 29 en76 Tryz.func76 rfl rfl rfl (by simp) ?_
  repeat (first | refine run ?_ | intro _)
  exact KX.ends (by first | exact ResOk.tmps rfl | (repeat (first | exact ResOk.nil | apply ResOk.tmp rfl | apply ResOk.cell rfl (by rfl) | apply ResOk.cell1 rfl))) (Ent.refl _) ⟨rfl, rfl⟩
theorem eachX_spec {L : List HP} (v : Value) : Tri Tryz.prog 78 #[.slice none 0 0, v] L (fun u L' => u = .slice none 0 0 ∧ L' = L) := by
  refine Tri.body (args := [.slice none 0 0, v]) 29 en78 Tryz.func78 rfl rfl rfl (by simp) ?_
  repeat (first | refine run ?_ | intro _)
  exact KX.ends (by first | exact ResOk.tmps rfl | (repeat (first | exact ResOk.nil | apply ResOk.tmp rfl | apply ResOk.cell rfl (by rfl) | apply ResOk.cell1 rfl))) (Ent.refl _) ⟨rfl, rfl⟩
abbrev plL3_58_1 : List Stp := [.ev 0, .ev 1, .ev 3, .ev 4, .ev 6, .ev 7, .ev 9, .ev 10, .ef 2, .ef 5, .ef 8, .ef 11, .ev 12, .ef 13]
theorem copyCat_spec {L : List HP} (ad : Option Addr) (c : Nat) (its : List Itm) [Rds L ad Itm encIt 7 its] (hl : its.length ≤ 64) :
    Tri Tryz.prog 58 #[catV ad its.length c] L (fun v L' => ∃ ad' cap', v = catV ad' its.length cap' ∧ L' = osl encIt 7 tIt ad' cap' its :: L) := by
  refine Tri.body (args := [catV ad its.length c]) 16 en58 Tryz.func58 rfl rfl rfl (by simp) ?_
  repeat (first | refine run ?_ | intro _ | ((with_reducible apply G.atDraw); first | refine G.draw (N := 16) (id := 1) plL3_58_1 mixed (by kernel_rfl) ?_))
  rename_i b1 b2
  (first | ((with_reducible apply GO.atPlain); first | refine GO.ef (Ef.callAll (cloneIt_spec ad its.length c its rfl (by omega)) rfl) (by decide) ?_ | refine GO.ef (by exact Ef.callAll (cloneIt_spec ad its.length c its rfl (by omega)) rfl) (by decide) ?_) | ((with_reducible apply GPW.atEf); first | refine GPW.ef (Ef.callAll (cloneIt_spec ad its.length c its rfl (by omega)) rfl) (by decide) ?_ | refine GPW.ef (by exact Ef.callAll (cloneIt_spec ad its.length c its rfl (by omega)) rfl) (by decide) ?_))
  rintro _ _ ⟨ad', cap', rfl, rfl⟩
  repeat (first | refine run ?_ | intro _ | ((with_reducible apply G.atDraw); first | refine G.draw (N := 16) (id := 1) plL3_58_1 mixed (by kernel_rfl) ?_))
  (first | ((with_reducible apply GO.atPlain); first | refine GO.ef (Ef.callAll (eachR_spec _) rfl) (by decide) ?_ | refine GO.ef (by exact Ef.callAll (eachR_spec _) rfl) (by decide) ?_) | ((with_reducible apply GPW.atEf); first | refine GPW.ef (Ef.callAll (eachR_spec _) rfl) (by decide) ?_ | refine GPW.ef (by exact Ef.callAll (eachR_spec _) rfl) (by decide) ?_))
  rintro _ _ ⟨rfl, rfl⟩
  repeat (first | refine run ?_ | intro _ | ((with_reducible apply G.atDraw); first | refine G.draw (N := 16) (id := 1) plL3_58_1 mixed (by kernel_rfl) ?_))
  (first | ((with_reducible apply GO.atPlain); first | refine GO.ef (Ef.callAll (eachT_spec _) rfl) (by decide) ?_ | refine GO.ef (by exact Ef.callAll (eachT_spec _) rfl) (by decide) ?_) | ((with_reducible apply GPW.atEf); first | refine GPW.ef (Ef.callAll (eachT_spec _) rfl) (by decide) ?_ | refine GPW.ef (by exact Ef.callAll (eachT_spec _) rfl) (by decide) ?_))
  rintro _ _ ⟨rfl, rfl⟩
  repeat (first | refine run ?_ | intro _ | ((with_reducible apply G.atDraw); first | refine G.draw (N := 16) (id := 1) plL3_58_1 mixed (by kernel_rfl) ?_))
  (first | ((with_reducible apply GO.atPlain); first | refine GO.ef (Ef.callAll (eachX_spec _) rfl) (by decide) ?_ | refine GO.ef (by exact Ef.callAll (eachX_spec _) rfl) (by decide) ?_) | ((with_reducible apply GPW.atEf); first | refine GPW.ef (Ef.callAll (eachX_spec _) rfl) (by decide) ?_ | refine GPW.ef (by exact Ef.callAll (eachX_spec _) rfl) (by decide) ?_))
  rintro _ _ ⟨rfl, rfl⟩
  repeat (first | refine run ?_ | intro _ | ((with_reducible apply G.atDraw); first | refine G.draw (N := 16) (id := 1) plL3_58_1 mixed (by kernel_rfl) ?_))
  refine KX.ends (by first | exact ResOk.cell rfl (by rfl) (ResOk.nil) | exact ResOk.cell1 rfl (ResOk.nil)) ?_ ⟨ad', cap', rfl, rfl⟩
  repeat (first | exact Ent.refl _ | exact Ent.nil _ | refine Ent.take' ?_ | refine Ent.trans Ent.drop ?_)

/-! ### Ledgers -/
abbrev Lot := Int × Int × Int
def encLot (l : Lot) : List Value := [.int .i64 l.1, .int .i64 l.2.1, .int .i64 l.2.2]
theorem encLot_one (t : Lot) : ∀ u ∈ encLot t, u.oneCell' = true := by simp [encLot, Value.oneCell']
instance : EncC encLot := ⟨encLot_one⟩
/-- A stack, with where it lies. -/
structure Stk where
  ad : Option Addr
  cap : Nat
  lots : List Lot
  deriving Inhabited
def Stk.v (s : Stk) : Value := .slice s.ad s.lots.length s.cap
abbrev stkP (s : Stk) : HP := isl encLot 3 s.ad s.lots
theorem stkP_m (s : Stk) : PersM (stkP s) := isl_persM _ _ _ _
def encN (n : Int) : Value := .int .i64 n
/-- A step, as it lies in a ledger. -/
structure StpV where
  id : Int
  kind : Int
  actor : Int
  tick : Int
  rule : Int
  times : Int
  mad : Option Addr
  mn : Nat
  mcap : Nat
  deriving Inhabited
def encSt (s : StpV) : List Value := [.int .i64 s.id, .int .i64 s.kind, .int .i64 s.actor, .int .i64 s.tick, .int .i64 s.rule, .int .i64 s.times, .slice s.mad s.mn s.mcap]
theorem encSt_one (t : StpV) : ∀ u ∈ encSt t, u.oneCell' = true := by simp [encSt, Value.oneCell']
instance : EncC encSt := ⟨encSt_one⟩
def encRaw (l : List Value) : List Value := l
structure LedS where
  shard : Int
  its : List Itm
  stk : List ((Int × Int) × List Lot)
  tot : List (Int × Int)
  nst : Nat
  nfl : Nat
structure LedX where
  iad : Option Addr
  icap : Nat
  ms : Nat
  mt : Nat
  mi : Nat
  mr : Nat
  sad : Option Addr
  scap : Nat
  steps : List StpV
  fad : Option Addr
  fcap : Nat
  flows : List (List Value)
  stk : List ((Int × Int) × Stk)
abbrev tLed : Nat := 114
abbrev tStep : Nat := 67
abbrev tFlow : Nat := 174
abbrev tLot : Nat := 138
structure LedF (S : LedS) (x : LedX) : Prop where
  stk : x.stk.map (fun p => (p.1, p.2.lots)) = S.stk
  steps : x.steps.length = S.nst
  ticks : ∀ s ∈ x.steps, s.tick = 0
  flows : x.flows.length = S.nfl
abbrev ledCells (S : LedS) (x : LedX) : List Value := [.int .i64 S.shard, .slice x.iad S.its.length x.icap, .slice none 0 0, .slice none 0 0, .slice none 0 0, .map (some x.ms), .map (some x.mt), .slice x.sad x.steps.length x.scap, .slice x.fad x.flows.length x.fcap, .map (some x.mi), .map (some x.mr)]
abbrev ledL (b : Nat) (S : LedS) (x : LedX) (L : List HP) : List HP :=
  obj b tLed (ledCells S x) :: gmap kvP Stk.v x.ms x.stk :: gmap kvI encN x.mt S.tot :: osl encSt 7 tStep x.sad x.scap x.steps :: osl encRaw 11 tFlow x.fad x.fcap x.flows :: gmap kvI Stk.v x.mi [] :: gmap kvI Stk.v x.mr [] :: isl encIt 7 x.iad S.its :: allP (fun p : (Int × Int) × Stk => stkP p.2) x.stk :: L
def ledA (b : Nat) (S : LedS) (x : LedX) : List HP := hpure (LedF S x) :: ledL b S x []
/-- Variable b is a ledger in state S. -/
def LedR (b : Nat) (S : LedS) : HP := hex fun x => hstars (ledA b S x)
theorem ledClose {b : Nat} {S : LedS} {L : List HP} (x : LedX) (h : LedF S x) : Ent (ledL b S x L) (LedR b S :: L) :=
  Ent.closeX (f := ledA b S) x (Ent.pure h (Ent.refl _))

theorem lnew_spec {L : List HP} [hk : KR L] (sh : Int) (hs : 0 ≤ sh ∧ sh < 12) (ad : Option Addr) (c : Nat) (its : List Itm) [Rds L ad Itm encIt 7 its] (h : ItsOk its) :
    Tri Tryz.prog 37 #[.int .i64 sh, catV ad its.length c] L (fun v L' => ∃ b, v = .tuple #[.pointer (some ⟨b, 0, none⟩), .int .i64 0] ∧ L' = LedR b ⟨sh, its, [], [], 0, 0⟩ :: L) := by
  obtain ⟨hs1, hs2⟩ := hs
  refine Tri.body (args := [.int .i64 sh, catV ad its.length c]) 27 en37 Tryz.func37 rfl rfl rfl (by simp) ?_
  repeat (first | refine run ?_ | intro _)
  rename_i b3
  (first | ((with_reducible apply GO.atPlain); first | refine GO.ef (Ef.callAll (cvalid_spec ad c its h) rfl) (by decide) ?_ | refine GO.ef (by exact Ef.callAll (cvalid_spec ad c its h) rfl) (by decide) ?_) | ((with_reducible apply GPW.atEf); first | refine GPW.ef (Ef.callAll (cvalid_spec ad c its h) rfl) (by decide) ?_ | refine GPW.ef (by exact Ef.callAll (cvalid_spec ad c its h) rfl) (by decide) ?_))
  rintro _ _ ⟨rfl, rfl⟩
  repeat (first | refine run ?_ | intro _)
  (first | ((with_reducible apply GO.atPlain); first | refine GO.ef (Ef.callAll (copyCat_spec ad c its h.len) rfl) (by decide) ?_ | refine GO.ef (by exact Ef.callAll (copyCat_spec ad c its h.len) rfl) (by decide) ?_) | ((with_reducible apply GPW.atEf); first | refine GPW.ef (Ef.callAll (copyCat_spec ad c its h.len) rfl) (by decide) ?_ | refine GPW.ef (by exact Ef.callAll (copyCat_spec ad c its h.len) rfl) (by decide) ?_))
  rintro _ _ ⟨ad', cap', rfl, rfl⟩
  repeat (first | refine run ?_ | intro _)
  (first | ((with_reducible apply GO.atPlain); first | refine GO.ef (Ef.makeG kvP Stk.v (.inl rfl)) (by decide) ?_ | refine GO.ef (by exact Ef.makeG kvP Stk.v (.inl rfl)) (by decide) ?_) | ((with_reducible apply GPW.atEf); first | refine GPW.ef (Ef.makeG kvP Stk.v (.inl rfl)) (by decide) ?_ | refine GPW.ef (by exact Ef.makeG kvP Stk.v (.inl rfl)) (by decide) ?_) | ((with_reducible apply GO.atUnit); first | refine GO.efu (Ef.makeG kvP Stk.v (.inl rfl)) ?_ | refine GO.efu (by exact Ef.makeG kvP Stk.v (.inl rfl)) ?_) | ((with_reducible apply GPW.atEfu); first | refine GPW.efu (Ef.makeG kvP Stk.v (.inl rfl)) ?_ | refine GPW.efu (by exact Ef.makeG kvP Stk.v (.inl rfl)) ?_))
  rintro _ _ ⟨ms, rfl, rfl⟩
  repeat (first | refine run ?_ | intro _)
  (first | ((with_reducible apply GO.atPlain); first | refine GO.ef (Ef.makeG kvI encN (.inl rfl)) (by decide) ?_ | refine GO.ef (by exact Ef.makeG kvI encN (.inl rfl)) (by decide) ?_) | ((with_reducible apply GPW.atEf); first | refine GPW.ef (Ef.makeG kvI encN (.inl rfl)) (by decide) ?_ | refine GPW.ef (by exact Ef.makeG kvI encN (.inl rfl)) (by decide) ?_) | ((with_reducible apply GO.atUnit); first | refine GO.efu (Ef.makeG kvI encN (.inl rfl)) ?_ | refine GO.efu (by exact Ef.makeG kvI encN (.inl rfl)) ?_) | ((with_reducible apply GPW.atEfu); first | refine GPW.efu (Ef.makeG kvI encN (.inl rfl)) ?_ | refine GPW.efu (by exact Ef.makeG kvI encN (.inl rfl)) ?_))
  rintro _ _ ⟨mt, rfl, rfl⟩
  repeat (first | refine run ?_ | intro _)
  (first | ((with_reducible apply GO.atPlain); first | refine GO.ef (Ef.makeG kvI Stk.v (.inl rfl)) (by decide) ?_ | refine GO.ef (by exact Ef.makeG kvI Stk.v (.inl rfl)) (by decide) ?_) | ((with_reducible apply GPW.atEf); first | refine GPW.ef (Ef.makeG kvI Stk.v (.inl rfl)) (by decide) ?_ | refine GPW.ef (by exact Ef.makeG kvI Stk.v (.inl rfl)) (by decide) ?_) | ((with_reducible apply GO.atUnit); first | refine GO.efu (Ef.makeG kvI Stk.v (.inl rfl)) ?_ | refine GO.efu (by exact Ef.makeG kvI Stk.v (.inl rfl)) ?_) | ((with_reducible apply GPW.atEfu); first | refine GPW.efu (Ef.makeG kvI Stk.v (.inl rfl)) ?_ | refine GPW.efu (by exact Ef.makeG kvI Stk.v (.inl rfl)) ?_))
  rintro _ _ ⟨mi, rfl, rfl⟩
  repeat (first | refine run ?_ | intro _)
  (first | ((with_reducible apply GO.atPlain); first | refine GO.ef (Ef.makeG kvI Stk.v (.inl rfl)) (by decide) ?_ | refine GO.ef (by exact Ef.makeG kvI Stk.v (.inl rfl)) (by decide) ?_) | ((with_reducible apply GPW.atEf); first | refine GPW.ef (Ef.makeG kvI Stk.v (.inl rfl)) (by decide) ?_ | refine GPW.ef (by exact Ef.makeG kvI Stk.v (.inl rfl)) (by decide) ?_) | ((with_reducible apply GO.atUnit); first | refine GO.efu (Ef.makeG kvI Stk.v (.inl rfl)) ?_ | refine GO.efu (by exact Ef.makeG kvI Stk.v (.inl rfl)) ?_) | ((with_reducible apply GPW.atEfu); first | refine GPW.efu (Ef.makeG kvI Stk.v (.inl rfl)) ?_ | refine GPW.efu (by exact Ef.makeG kvI Stk.v (.inl rfl)) ?_))
  rintro _ _ ⟨mr, rfl, rfl⟩
  repeat (first | refine run ?_ | intro _)
  rename_i b
  refine KX.ends (by first | exact ResOk.tmps rfl | (repeat (first | exact ResOk.nil | apply ResOk.tmp rfl | apply ResOk.cell rfl (by rfl) | apply ResOk.cell1 rfl))) ?_ ⟨b, rfl, rfl⟩
  refine (Ent.frz ad').trans ?_
  refine Ent.trans ?_ (ledClose ⟨ad', cap', ms, mt, mi, mr, none, 0, [], none, 0, [], []⟩ ⟨rfl, rfl, by simp, rfl⟩)
  simp only [ledL, ledCells, List.length_nil]
  refine (Ent.nilSl encSt 7 tStep).trans ?_
  refine (Ent.nilSl encRaw 11 tFlow).trans ?_
  refine (Ent.allP_nil (fun p : (Int × Int) × Stk => stkP p.2)).trans ?_
  repeat (first | exact Ent.refl _ | exact Ent.nil _ | refine Ent.take' ?_ | refine Ent.trans Ent.drop ?_)
end Go.Proofs.YtclgjkeeaopppaaGreatDoor
