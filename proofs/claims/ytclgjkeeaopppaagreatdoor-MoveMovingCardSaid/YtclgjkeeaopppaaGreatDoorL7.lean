/- Contracts: maps copied into others; a step that spawns units is posted. -/
import Derived.Test.YtclgjkeeaopppaaGreatDoorL6
namespace Go.Proofs.YtclgjkeeaopppaaGreatDoor
open Go.V
attribute [local irreducible] G GO GP GPW GPK Ev Ef EfR Ent CB GB Enters

theorem copyI_spec (d s : Nat) (m : List (Int × Int)) (k v : Int) :
    Tri Tryz.prog 47 #[.map (some d), .map (some s)] [gmap kvI encN d m, gmap kvI encN s [(k, v)]] (fun _ L' => L' = [gmap kvI encN d (gins m k v)]) := by
  refine Tri.body (args := [.map (some d), .map (some s)]) 16 en47 Tryz.func47 rfl rfl rfl (by simp) ?_
  refine G.ent Ent.swap ?_
  repeat (first | refine runB ?_ | intro _)
  (first | ((with_reducible apply GO.atPlain); first | refine GO.ef (Ef.rangeG rfl) (by decide) ?_ | refine GO.ef (by exact Ef.rangeG rfl) (by decide) ?_) | ((with_reducible apply GPW.atEf); first | refine GPW.ef (Ef.rangeG rfl) (by decide) ?_ | refine GPW.ef (by exact Ef.rangeG rfl) (by decide) ?_) | ((with_reducible apply GO.atUnit); first | refine GO.efu (Ef.rangeG rfl) ?_ | refine GO.efu (by exact Ef.rangeG rfl) ?_) | ((with_reducible apply GPW.atEfu); first | refine GPW.efu (Ef.rangeG rfl) ?_ | refine GPW.efu (by exact Ef.rangeG rfl) ?_))
  rintro _ _ ⟨r, rfl, rfl⟩
  repeat (first | refine runB ?_ | intro _)
  refine G.unroll 2 (GR.step ?_)
  repeat (first | refine runB ?_ | intro _)
  (first | ((with_reducible apply GO.atPlain); first | refine GO.ef (Ef.nextG rfl) (by decide) ?_ | refine GO.ef (by exact Ef.nextG rfl) (by decide) ?_) | ((with_reducible apply GPW.atEf); first | refine GPW.ef (Ef.nextG rfl) (by decide) ?_ | refine GPW.ef (by exact Ef.nextG rfl) (by decide) ?_) | ((with_reducible apply GO.atUnit); first | refine GO.efu (Ef.nextG rfl) ?_ | refine GO.efu (by exact Ef.nextG rfl) ?_) | ((with_reducible apply GPW.atEfu); first | refine GPW.efu (Ef.nextG rfl) ?_ | refine GPW.efu (by exact Ef.nextG rfl) ?_))
  rintro _ _ (⟨rfl, rfl, hp⟩ | ⟨p, rfl, rfl, hpm, hpn, hl⟩)
  · exact absurd hp.length_eq (by simp)
  obtain rfl : p = (k, v) := by simpa using hpm
  repeat (first | refine runB ?_ | intro _)
  (first | ((with_reducible apply GO.atPlain); first | refine GO.ev (Ev.entryG (done := []) rfl rfl) (by decide) ?_ | refine GO.ev (by exact Ev.entryG (done := []) rfl rfl) (by decide) ?_) | ((with_reducible apply GPW.atEv); first | refine GPW.evP (Ev.entryG (done := []) rfl rfl) (by decide) ?_ | refine GPW.evP (by exact Ev.entryG (done := []) rfl rfl) (by decide) ?_) | ((with_reducible apply GPW.atEv); first | refine GPW.evL (Ev.entryG (done := []) rfl rfl) (by decide) ?_ | refine GPW.evL (by exact Ev.entryG (done := []) rfl rfl) (by decide) ?_))
  repeat (first | refine runB ?_ | intro _)
  (first | ((with_reducible apply GO.atPlain); first | refine GO.ef (Ef.updG (enc := encN) (e := v) rfl rfl rfl rfl) (by decide) ?_ | refine GO.ef (by exact Ef.updG (enc := encN) (e := v) rfl rfl rfl rfl) (by decide) ?_) | ((with_reducible apply GPW.atEf); first | refine GPW.ef (Ef.updG (enc := encN) (e := v) rfl rfl rfl rfl) (by decide) ?_ | refine GPW.ef (by exact Ef.updG (enc := encN) (e := v) rfl rfl rfl rfl) (by decide) ?_) | ((with_reducible apply GO.atUnit); first | refine GO.efu (Ef.updG (enc := encN) (e := v) rfl rfl rfl rfl) ?_ | refine GO.efu (by exact Ef.updG (enc := encN) (e := v) rfl rfl rfl rfl) ?_) | ((with_reducible apply GPW.atEfu); first | refine GPW.efu (Ef.updG (enc := encN) (e := v) rfl rfl rfl rfl) ?_ | refine GPW.efu (by exact Ef.updG (enc := encN) (e := v) rfl rfl rfl rfl) ?_))
  rintro _ _ rfl
  repeat (first | refine runB ?_ | intro _)
  refine GR.step ?_
  repeat (first | refine runB ?_ | intro _)
  (first | ((with_reducible apply GO.atPlain); first | refine GO.ef (Ef.nextG rfl) (by decide) ?_ | refine GO.ef (by exact Ef.nextG rfl) (by decide) ?_) | ((with_reducible apply GPW.atEf); first | refine GPW.ef (Ef.nextG rfl) (by decide) ?_ | refine GPW.ef (by exact Ef.nextG rfl) (by decide) ?_) | ((with_reducible apply GO.atUnit); first | refine GO.efu (Ef.nextG rfl) ?_ | refine GO.efu (by exact Ef.nextG rfl) ?_) | ((with_reducible apply GPW.atEfu); first | refine GPW.efu (Ef.nextG rfl) ?_ | refine GPW.efu (by exact Ef.nextG rfl) ?_))
  rintro _ _ (⟨rfl, rfl, hp⟩ | ⟨p, rfl, rfl, hpm, hpn, hl⟩)
  · repeat (first | refine runB ?_ | intro _)
    exact KX.endsN (by first | exact ResOk.tmps rfl | (repeat (first | exact ResOk.nil | apply ResOk.tmp rfl | apply ResOk.cell rfl (by rfl) | apply ResOk.cell1 rfl))) Ent.drop rfl
  · exact absurd (show p ∈ [] ++ [(k, v)] by simpa using hpm) hpn
theorem copyL_spec (d s : Nat) (m : List (Int × Stk)) :
    Tri Tryz.prog 48 #[.map (some d), .map (some s)] [gmap kvI Stk.v d m, gmap kvI Stk.v s []] (fun _ L' => L' = [gmap kvI Stk.v d m]) := by
  refine Tri.body (args := [.map (some d), .map (some s)]) 16 en48 Tryz.func48 rfl rfl rfl (by simp) ?_
  refine G.ent Ent.swap ?_
  repeat (first | refine runB ?_ | intro _)
  (first | ((with_reducible apply GO.atPlain); first | refine GO.ef (Ef.rangeG rfl) (by decide) ?_ | refine GO.ef (by exact Ef.rangeG rfl) (by decide) ?_) | ((with_reducible apply GPW.atEf); first | refine GPW.ef (Ef.rangeG rfl) (by decide) ?_ | refine GPW.ef (by exact Ef.rangeG rfl) (by decide) ?_) | ((with_reducible apply GO.atUnit); first | refine GO.efu (Ef.rangeG rfl) ?_ | refine GO.efu (by exact Ef.rangeG rfl) ?_) | ((with_reducible apply GPW.atEfu); first | refine GPW.efu (Ef.rangeG rfl) ?_ | refine GPW.efu (by exact Ef.rangeG rfl) ?_))
  rintro _ _ ⟨r, rfl, rfl⟩
  repeat (first | refine runB ?_ | intro _)
  refine G.unroll 1 (GR.step ?_)
  repeat (first | refine runB ?_ | intro _)
  (first | ((with_reducible apply GO.atPlain); first | refine GO.ef (Ef.nextG rfl) (by decide) ?_ | refine GO.ef (by exact Ef.nextG rfl) (by decide) ?_) | ((with_reducible apply GPW.atEf); first | refine GPW.ef (Ef.nextG rfl) (by decide) ?_ | refine GPW.ef (by exact Ef.nextG rfl) (by decide) ?_) | ((with_reducible apply GO.atUnit); first | refine GO.efu (Ef.nextG rfl) ?_ | refine GO.efu (by exact Ef.nextG rfl) ?_) | ((with_reducible apply GPW.atEfu); first | refine GPW.efu (Ef.nextG rfl) ?_ | refine GPW.efu (by exact Ef.nextG rfl) ?_))
  rintro _ _ (⟨rfl, rfl, hp⟩ | ⟨p, rfl, rfl, hpm, hpn, hl⟩)
  · repeat (first | refine runB ?_ | intro _)
    exact KX.endsN (by first | exact ResOk.tmps rfl | (repeat (first | exact ResOk.nil | apply ResOk.tmp rfl | apply ResOk.cell rfl (by rfl) | apply ResOk.cell1 rfl))) Ent.drop rfl
  · exact absurd hpm (by simp)

theorem gins_sub {κ α : Type} [DecidableEq κ] {m : List (κ × α)} {k : κ} {a : α} : ∀ p ∈ gins m k a, p ∈ (k, a) :: m := by
  intro p hp
  unfold gins at hp
  split at hp
  · obtain ⟨q, hq, rfl⟩ := List.mem_map.1 hp
    split
    · exact List.mem_cons_self ..
    · exact List.mem_cons_of_mem _ hq
  · rcases List.mem_append.1 hp with h | h
    · exact List.mem_cons_of_mem _ h
    · simp at h; subst h; exact List.mem_cons_self ..
abbrev plL7_46_6 : List Stp := [.ev 0, .ev 1, .ev 2, .ev 3, .ev 4, .ev 5, .ev 6, .ev 7, .ev 8, .ev 9, .ev 10, .ev 11, .ev 12, .ev 13, .ev 14, .ef 15]
set_option maxHeartbeats 1000000 in
theorem tryS_spec {L : List HP} (b : Nat) (S : LedS) (hS : S.Ok) (x : LedX) (hF : LedF S x) (mad : Option Addr) (mcap : Nat) {to item n : Int} [hrm : Rds L mad (Int × Int × Int) encMv 5 [(to, item, n)]] (h : SpOk S to item n) :
    Tri Tryz.prog 46 #[.pointer (some ⟨b, 0, none⟩), .agg #[.int .i64 0, .int .i64 0, .int .i64 0, .int .i64 0, .int .i64 (-1), .int .i64 0, .slice mad 1 mcap]] (ledL b S x L)
      (fun v L' => ∃ bc cs ct ci cr ad sk fad fcap fl, v = .tuple #[.pointer (some ⟨bc, 0, none⟩), .int .i64 0] ∧ (sk.lots = S.cur to item ++ [(S.id, 0, n)] ∧ ∀ u ∈ fl, u.oneCell' = true) ∧
        L' = obj bc tCh (chCells b (S.shard * 4294967296 + S.nst) ad cs ct ci cr (.slice fad 1 fcap)) :: gmap kvP Stk.v cs [((to, item), sk)] :: gmap kvI encN ct [(item, S.total item + n)] :: gmap kvI Stk.v ci [] :: gmap kvI Stk.v cr [] :: osl encRaw 11 tFlow fad fcap [fl] :: stkP sk :: ledL b S x L) := by
  have hsh := hS.shard
  have hnst := hS.nst
  have hnfl := hS.nfl
  have hst := hF.steps
  have hfl := hF.flows
  have q0 : ([((to, item, n) : Int × Int × Int)]).length = 1 := rfl
  have h00 : ([(to, item, n)] : List (Int × Int × Int))[(0 : Int).toNat]! = (to, item, n) := rfl
  refine Tri.body (args := [.pointer (some ⟨b, 0, none⟩), .agg #[.int .i64 0, .int .i64 0, .int .i64 0, .int .i64 0, .int .i64 (-1), .int .i64 0, .slice mad 1 mcap]]) 62 en46 Tryz.func46 rfl rfl rfl (by simp) ?_
  simp only [ledL, ledCells]
  repeat (first | refine runB ?_ | intro _ | ((with_reducible apply G.atDraw); first | refine G.draw (N := 62) (id := 6) plL7_46_6 mixed (by kernel_rfl) ?_))
  (first | ((with_reducible apply GO.atPlain); first | refine GO.ef (Ef.callAll (possS_spec (b := b) (S := S) (x := x) hF.ticks (by omega) h) rfl) (by decide) ?_ | refine GO.ef (by exact Ef.callAll (possS_spec (b := b) (S := S) (x := x) hF.ticks (by omega) h) rfl) (by decide) ?_) | ((with_reducible apply GPW.atEf); first | refine GPW.ef (Ef.callAll (possS_spec (b := b) (S := S) (x := x) hF.ticks (by omega) h) rfl) (by decide) ?_ | refine GPW.ef (by exact Ef.callAll (possS_spec (b := b) (S := S) (x := x) hF.ticks (by omega) h) rfl) (by decide) ?_))
  rintro _ _ ⟨rfl, rfl⟩
  repeat (first | refine runB ?_ | intro _ | ((with_reducible apply G.atDraw); first | refine G.draw (N := 62) (id := 6) plL7_46_6 mixed (by kernel_rfl) ?_))
  (first | ((with_reducible apply GO.atPlain); first | refine GO.ef (Ef.callAll (copyStep_spec ⟨0, 0, 0, 0, -1, 0, mad, 1, mcap⟩ (to, item, n) rfl) rfl) (by decide) ?_ | refine GO.ef (by exact Ef.callAll (copyStep_spec ⟨0, 0, 0, 0, -1, 0, mad, 1, mcap⟩ (to, item, n) rfl) rfl) (by decide) ?_) | ((with_reducible apply GPW.atEf); first | refine GPW.ef (Ef.callAll (copyStep_spec ⟨0, 0, 0, 0, -1, 0, mad, 1, mcap⟩ (to, item, n) rfl) rfl) (by decide) ?_ | refine GPW.ef (by exact Ef.callAll (copyStep_spec ⟨0, 0, 0, 0, -1, 0, mad, 1, mcap⟩ (to, item, n) rfl) rfl) (by decide) ?_))
  rintro _ _ ⟨ad, rfl, rfl⟩
  simp only [encSt]
  repeat (first | refine runB ?_ | intro _ | ((with_reducible apply G.atDraw); first | refine G.draw (N := 62) (id := 6) plL7_46_6 mixed (by kernel_rfl) ?_))
  (first | ((with_reducible apply GO.atPlain); first | refine GO.ef (Ef.makeG kvP Stk.v (.inl rfl)) (by decide) ?_ | refine GO.ef (by exact Ef.makeG kvP Stk.v (.inl rfl)) (by decide) ?_) | ((with_reducible apply GPW.atEf); first | refine GPW.ef (Ef.makeG kvP Stk.v (.inl rfl)) (by decide) ?_ | refine GPW.ef (by exact Ef.makeG kvP Stk.v (.inl rfl)) (by decide) ?_) | ((with_reducible apply GO.atUnit); first | refine GO.efu (Ef.makeG kvP Stk.v (.inl rfl)) ?_ | refine GO.efu (by exact Ef.makeG kvP Stk.v (.inl rfl)) ?_) | ((with_reducible apply GPW.atEfu); first | refine GPW.efu (Ef.makeG kvP Stk.v (.inl rfl)) ?_ | refine GPW.efu (by exact Ef.makeG kvP Stk.v (.inl rfl)) ?_))
  rintro _ _ ⟨cs, rfl, rfl⟩
  repeat (first | refine runB ?_ | intro _ | ((with_reducible apply G.atDraw); first | refine G.draw (N := 62) (id := 6) plL7_46_6 mixed (by kernel_rfl) ?_))
  (first | ((with_reducible apply GO.atPlain); first | refine GO.ef (Ef.makeG kvI encN (.inl rfl)) (by decide) ?_ | refine GO.ef (by exact Ef.makeG kvI encN (.inl rfl)) (by decide) ?_) | ((with_reducible apply GPW.atEf); first | refine GPW.ef (Ef.makeG kvI encN (.inl rfl)) (by decide) ?_ | refine GPW.ef (by exact Ef.makeG kvI encN (.inl rfl)) (by decide) ?_) | ((with_reducible apply GO.atUnit); first | refine GO.efu (Ef.makeG kvI encN (.inl rfl)) ?_ | refine GO.efu (by exact Ef.makeG kvI encN (.inl rfl)) ?_) | ((with_reducible apply GPW.atEfu); first | refine GPW.efu (Ef.makeG kvI encN (.inl rfl)) ?_ | refine GPW.efu (by exact Ef.makeG kvI encN (.inl rfl)) ?_))
  rintro _ _ ⟨ct, rfl, rfl⟩
  repeat (first | refine runB ?_ | intro _ | ((with_reducible apply G.atDraw); first | refine G.draw (N := 62) (id := 6) plL7_46_6 mixed (by kernel_rfl) ?_))
  (first | ((with_reducible apply GO.atPlain); first | refine GO.ef (Ef.makeG kvI Stk.v (.inl rfl)) (by decide) ?_ | refine GO.ef (by exact Ef.makeG kvI Stk.v (.inl rfl)) (by decide) ?_) | ((with_reducible apply GPW.atEf); first | refine GPW.ef (Ef.makeG kvI Stk.v (.inl rfl)) (by decide) ?_ | refine GPW.ef (by exact Ef.makeG kvI Stk.v (.inl rfl)) (by decide) ?_) | ((with_reducible apply GO.atUnit); first | refine GO.efu (Ef.makeG kvI Stk.v (.inl rfl)) ?_ | refine GO.efu (by exact Ef.makeG kvI Stk.v (.inl rfl)) ?_) | ((with_reducible apply GPW.atEfu); first | refine GPW.efu (Ef.makeG kvI Stk.v (.inl rfl)) ?_ | refine GPW.efu (by exact Ef.makeG kvI Stk.v (.inl rfl)) ?_))
  rintro _ _ ⟨ci, rfl, rfl⟩
  repeat (first | refine runB ?_ | intro _ | ((with_reducible apply G.atDraw); first | refine G.draw (N := 62) (id := 6) plL7_46_6 mixed (by kernel_rfl) ?_))
  (first | ((with_reducible apply GO.atPlain); first | refine GO.ef (Ef.makeG kvI Stk.v (.inl rfl)) (by decide) ?_ | refine GO.ef (by exact Ef.makeG kvI Stk.v (.inl rfl)) (by decide) ?_) | ((with_reducible apply GPW.atEf); first | refine GPW.ef (Ef.makeG kvI Stk.v (.inl rfl)) (by decide) ?_ | refine GPW.ef (by exact Ef.makeG kvI Stk.v (.inl rfl)) (by decide) ?_) | ((with_reducible apply GO.atUnit); first | refine GO.efu (Ef.makeG kvI Stk.v (.inl rfl)) ?_ | refine GO.efu (by exact Ef.makeG kvI Stk.v (.inl rfl)) ?_) | ((with_reducible apply GPW.atEfu); first | refine GPW.efu (Ef.makeG kvI Stk.v (.inl rfl)) ?_ | refine GPW.efu (by exact Ef.makeG kvI Stk.v (.inl rfl)) ?_))
  rintro _ _ ⟨cr, rfl, rfl⟩
  repeat (first | refine runB ?_ | intro _ | ((with_reducible apply G.atDraw); first | refine G.draw (N := 62) (id := 6) plL7_46_6 mixed (by kernel_rfl) ?_))
  rename_i b3 bc
  refine G.unroll 2 (GR.step ?_)
  repeat (first | refine runB ?_ | intro _ | ((with_reducible apply G.atDraw); first | refine G.draw (N := 62) (id := 6) plL7_46_6 mixed (by kernel_rfl) ?_))
  rw [h00]
  (first | ((with_reducible apply GO.atPlain); first | refine GO.ef (Ef.call (moveS_spec b bc cs ct ci cr S hS x hF (S.shard * 4294967296 + (x.steps.length : Int)) ad h) rfl (by repeat (first | exact Ent.refl _ | apply Ent.take))) (by decide) ?_ | refine GO.ef (by exact Ef.call (moveS_spec b bc cs ct ci cr S hS x hF (S.shard * 4294967296 + (x.steps.length : Int)) ad h) rfl (by repeat (first | exact Ent.refl _ | apply Ent.take))) (by decide) ?_) | ((with_reducible apply GPW.atEf); first | refine GPW.ef (Ef.call (moveS_spec b bc cs ct ci cr S hS x hF (S.shard * 4294967296 + (x.steps.length : Int)) ad h) rfl (by repeat (first | exact Ent.refl _ | apply Ent.take))) (by decide) ?_ | refine GPW.ef (by exact Ef.call (moveS_spec b bc cs ct ci cr S hS x hF (S.shard * 4294967296 + (x.steps.length : Int)) ad h) rfl (by repeat (first | exact Ent.refl _ | apply Ent.take))) (by decide) ?_))
  rintro _ _ ⟨_, ⟨sk, fad, fcap, fl, rfl, hsk, rfl⟩, hL⟩
  simp only [ledL, List.cons_append, List.nil_append] at hL
  subst hL
  repeat (first | refine runB ?_ | intro _ | ((with_reducible apply G.atDraw); first | refine G.draw (N := 62) (id := 6) plL7_46_6 mixed (by kernel_rfl) ?_))
  refine GR.step ?_
  repeat (first | refine runB ?_ | intro _ | ((with_reducible apply G.atDraw); first | refine G.draw (N := 62) (id := 6) plL7_46_6 mixed (by kernel_rfl) ?_))
  refine KX.ends (by first | exact ResOk.tmps rfl | (repeat (first | exact ResOk.nil | apply ResOk.tmp rfl | apply ResOk.cell rfl (by rfl) | apply ResOk.cell1 rfl))) ?_ ⟨bc, cs, ct, ci, cr, ad, sk, fad, fcap, fl, rfl, hsk, rfl⟩
  rw [← hst]
  repeat (first | exact Ent.refl _ | exact Ent.nil _ | refine Ent.take' ?_ | refine Ent.trans Ent.drop ?_)
abbrev plL7_27_8 : List Stp := [.ev 0, .ev 1, .ev 2, .ev 3, .ev 4, .ef 5]
abbrev plL7_27_9 : List Stp := [.ev 0, .ev 1, .ev 2, .ev 3, .ev 4, .ev 5, .ef 6]
abbrev plL7_27_10 : List Stp := [.ev 0, .ev 1, .ev 2, .ev 3, .ev 4, .ev 5, .ev 6, .ev 7, .ef 8]
abbrev plL7_27_11 : List Stp := [.ev 0, .ev 1, .ev 2, .ev 3, .ev 4, .ev 5, .ev 6, .ev 7, .ef 8]
abbrev plL7_27_12 : List Stp := [.ev 0, .ev 1, .ev 2, .ev 3, .ev 4, .ev 5, .ev 6, .ev 7, .ef 8]
abbrev plL7_27_13 : List Stp := [.ev 0, .ev 1, .ev 2, .ev 3, .ev 4, .ev 5, .ev 6, .ev 7, .ev 8, .ef 9, .ev 10, .ev 11, .ef 12]
abbrev plL7_27_14 : List Stp := [.ev 0, .ev 1, .ev 2, .ev 3, .ev 4, .ev 5, .ev 6, .ev 7, .ev 8, .ef 9, .ef 10, .ev 11, .ev 12, .ef 13]
set_option maxHeartbeats 1000000 in
theorem post_spec {L : List HP} (b : Nat) (S : LedS) (hS : S.Ok) (mad : Option Addr) (mcap : Nat) {to item n : Int} [hrm : Rds L mad (Int × Int × Int) encMv 5 [(to, item, n)]] (h : SpOk S to item n) :
    Tri Tryz.prog 27 #[.pointer (some ⟨b, 0, none⟩), .agg #[.int .i64 0, .int .i64 0, .int .i64 0, .int .i64 0, .int .i64 (-1), .int .i64 0, .slice mad 1 mcap]] (LedR b S :: L) (fun v L' => v = .tuple #[.int .i64 (S.shard * 4294967296 + S.nst), .int .i64 0] ∧ L' = LedR b (S.spawn to item n) :: L) := by
  have hsh := hS.shard
  have hnst := hS.nst
  have hnfl := hS.nfl
  refine Tri.body (args := [.pointer (some ⟨b, 0, none⟩), .agg #[.int .i64 0, .int .i64 0, .int .i64 0, .int .i64 0, .int .i64 (-1), .int .i64 0, .slice mad 1 mcap]]) 100 en27 Tryz.func27 rfl rfl rfl (by simp) ?_
  refine G.openX (f := ledA b S) ?_
  intro x
  simp only [ledA, ledL, ledCells, List.cons_append, List.nil_append]
  refine G.pureE ?_
  intro hF
  have hst := hF.steps
  have hfl := hF.flows
  repeat (first | refine runB ?_ | intro _ | ((with_reducible apply G.atDraw); first | refine G.draw (N := 100) (id := 8) plL7_27_8 mixed (by kernel_rfl) ?_ | refine G.draw (N := 100) (id := 9) plL7_27_9 mixed (by kernel_rfl) ?_ | refine G.draw (N := 100) (id := 10) plL7_27_10 mixed (by kernel_rfl) ?_ | refine G.draw (N := 100) (id := 11) plL7_27_11 mixed (by kernel_rfl) ?_ | refine G.draw (N := 100) (id := 12) plL7_27_12 mixed (by kernel_rfl) ?_ | refine G.draw (N := 100) (id := 13) plL7_27_13 mixed (by kernel_rfl) ?_ | refine G.draw (N := 100) (id := 14) plL7_27_14 mixed (by kernel_rfl) ?_))
  refine GO.ent Ent.drop ?_
  (first | ((with_reducible apply GO.atPlain); first | refine GO.ef (Ef.callAll (tryS_spec b S hS x hF mad mcap h) rfl) (by decide) ?_ | refine GO.ef (by exact Ef.callAll (tryS_spec b S hS x hF mad mcap h) rfl) (by decide) ?_) | ((with_reducible apply GPW.atEf); first | refine GPW.ef (Ef.callAll (tryS_spec b S hS x hF mad mcap h) rfl) (by decide) ?_ | refine GPW.ef (by exact Ef.callAll (tryS_spec b S hS x hF mad mcap h) rfl) (by decide) ?_))
  rintro _ _ ⟨bc, cs, ct, ci, cr, ad, sk, fad, fcap, fl, rfl, ⟨hsk, hfo⟩, rfl⟩
  simp only [ledL, ledCells, chCells]
  have hskl : sk.lots.length ≠ 0 := by rw [hsk]; simp
  repeat (first | refine runB ?_ | intro _ | ((with_reducible apply G.atDraw); first | refine G.draw (N := 100) (id := 8) plL7_27_8 mixed (by kernel_rfl) ?_ | refine G.draw (N := 100) (id := 9) plL7_27_9 mixed (by kernel_rfl) ?_ | refine G.draw (N := 100) (id := 10) plL7_27_10 mixed (by kernel_rfl) ?_ | refine G.draw (N := 100) (id := 11) plL7_27_11 mixed (by kernel_rfl) ?_ | refine G.draw (N := 100) (id := 12) plL7_27_12 mixed (by kernel_rfl) ?_ | refine G.draw (N := 100) (id := 13) plL7_27_13 mixed (by kernel_rfl) ?_ | refine G.draw (N := 100) (id := 14) plL7_27_14 mixed (by kernel_rfl) ?_))
  (first | ((with_reducible apply GO.atPlain); first | refine GO.ef (Ef.rangeG rfl) (by decide) ?_ | refine GO.ef (by exact Ef.rangeG rfl) (by decide) ?_) | ((with_reducible apply GPW.atEf); first | refine GPW.ef (Ef.rangeG rfl) (by decide) ?_ | refine GPW.ef (by exact Ef.rangeG rfl) (by decide) ?_) | ((with_reducible apply GO.atUnit); first | refine GO.efu (Ef.rangeG rfl) ?_ | refine GO.efu (by exact Ef.rangeG rfl) ?_) | ((with_reducible apply GPW.atEfu); first | refine GPW.efu (Ef.rangeG rfl) ?_ | refine GPW.efu (by exact Ef.rangeG rfl) ?_))
  rintro _ _ ⟨r, rfl, rfl⟩
  repeat (first | refine runB ?_ | intro _ | ((with_reducible apply G.atDraw); first | refine G.draw (N := 100) (id := 8) plL7_27_8 mixed (by kernel_rfl) ?_ | refine G.draw (N := 100) (id := 9) plL7_27_9 mixed (by kernel_rfl) ?_ | refine G.draw (N := 100) (id := 10) plL7_27_10 mixed (by kernel_rfl) ?_ | refine G.draw (N := 100) (id := 11) plL7_27_11 mixed (by kernel_rfl) ?_ | refine G.draw (N := 100) (id := 12) plL7_27_12 mixed (by kernel_rfl) ?_ | refine G.draw (N := 100) (id := 13) plL7_27_13 mixed (by kernel_rfl) ?_ | refine G.draw (N := 100) (id := 14) plL7_27_14 mixed (by kernel_rfl) ?_))
  refine G.unroll 2 (GR.step ?_)
  repeat (first | refine runB ?_ | intro _ | ((with_reducible apply G.atDraw); first | refine G.draw (N := 100) (id := 8) plL7_27_8 mixed (by kernel_rfl) ?_ | refine G.draw (N := 100) (id := 9) plL7_27_9 mixed (by kernel_rfl) ?_ | refine G.draw (N := 100) (id := 10) plL7_27_10 mixed (by kernel_rfl) ?_ | refine G.draw (N := 100) (id := 11) plL7_27_11 mixed (by kernel_rfl) ?_ | refine G.draw (N := 100) (id := 12) plL7_27_12 mixed (by kernel_rfl) ?_ | refine G.draw (N := 100) (id := 13) plL7_27_13 mixed (by kernel_rfl) ?_ | refine G.draw (N := 100) (id := 14) plL7_27_14 mixed (by kernel_rfl) ?_))
  (first | ((with_reducible apply GO.atPlain); first | refine GO.ef (Ef.nextG rfl) (by decide) ?_ | refine GO.ef (by exact Ef.nextG rfl) (by decide) ?_) | ((with_reducible apply GPW.atEf); first | refine GPW.ef (Ef.nextG rfl) (by decide) ?_ | refine GPW.ef (by exact Ef.nextG rfl) (by decide) ?_) | ((with_reducible apply GO.atUnit); first | refine GO.efu (Ef.nextG rfl) ?_ | refine GO.efu (by exact Ef.nextG rfl) ?_) | ((with_reducible apply GPW.atEfu); first | refine GPW.efu (Ef.nextG rfl) ?_ | refine GPW.efu (by exact Ef.nextG rfl) ?_))
  rintro _ _ (⟨rfl, rfl, hp⟩ | ⟨p, rfl, rfl, hpm, hpn, hl⟩)
  · exact absurd hp.length_eq (by simp)
  obtain rfl : p = ((to, item), sk) := by simpa using hpm
  repeat (first | refine runB ?_ | intro _ | ((with_reducible apply G.atDraw); first | refine G.draw (N := 100) (id := 8) plL7_27_8 mixed (by kernel_rfl) ?_ | refine G.draw (N := 100) (id := 9) plL7_27_9 mixed (by kernel_rfl) ?_ | refine G.draw (N := 100) (id := 10) plL7_27_10 mixed (by kernel_rfl) ?_ | refine G.draw (N := 100) (id := 11) plL7_27_11 mixed (by kernel_rfl) ?_ | refine G.draw (N := 100) (id := 12) plL7_27_12 mixed (by kernel_rfl) ?_ | refine G.draw (N := 100) (id := 13) plL7_27_13 mixed (by kernel_rfl) ?_ | refine G.draw (N := 100) (id := 14) plL7_27_14 mixed (by kernel_rfl) ?_))
  (first | ((with_reducible apply GO.atPlain); first | refine GO.ev (Ev.entryG (done := []) rfl rfl) (by decide) ?_ | refine GO.ev (by exact Ev.entryG (done := []) rfl rfl) (by decide) ?_) | ((with_reducible apply GPW.atEv); first | refine GPW.evP (Ev.entryG (done := []) rfl rfl) (by decide) ?_ | refine GPW.evP (by exact Ev.entryG (done := []) rfl rfl) (by decide) ?_) | ((with_reducible apply GPW.atEv); first | refine GPW.evL (Ev.entryG (done := []) rfl rfl) (by decide) ?_ | refine GPW.evL (by exact Ev.entryG (done := []) rfl rfl) (by decide) ?_))
  simp only [kvP, Stk.v, List.map_cons, List.map_nil]
  repeat (first | refine runB ?_ | intro _ | ((with_reducible apply G.atDraw); first | refine G.draw (N := 100) (id := 8) plL7_27_8 mixed (by kernel_rfl) ?_ | refine G.draw (N := 100) (id := 9) plL7_27_9 mixed (by kernel_rfl) ?_ | refine G.draw (N := 100) (id := 10) plL7_27_10 mixed (by kernel_rfl) ?_ | refine G.draw (N := 100) (id := 11) plL7_27_11 mixed (by kernel_rfl) ?_ | refine G.draw (N := 100) (id := 12) plL7_27_12 mixed (by kernel_rfl) ?_ | refine G.draw (N := 100) (id := 13) plL7_27_13 mixed (by kernel_rfl) ?_ | refine G.draw (N := 100) (id := 14) plL7_27_14 mixed (by kernel_rfl) ?_))
  (first | ((with_reducible apply GO.atPlain); first | refine GO.ef (Ef.updG (enc := Stk.v) (e := sk) rfl rfl rfl rfl) (by decide) ?_ | refine GO.ef (by exact Ef.updG (enc := Stk.v) (e := sk) rfl rfl rfl rfl) (by decide) ?_) | ((with_reducible apply GPW.atEf); first | refine GPW.ef (Ef.updG (enc := Stk.v) (e := sk) rfl rfl rfl rfl) (by decide) ?_ | refine GPW.ef (by exact Ef.updG (enc := Stk.v) (e := sk) rfl rfl rfl rfl) (by decide) ?_) | ((with_reducible apply GO.atUnit); first | refine GO.efu (Ef.updG (enc := Stk.v) (e := sk) rfl rfl rfl rfl) ?_ | refine GO.efu (by exact Ef.updG (enc := Stk.v) (e := sk) rfl rfl rfl rfl) ?_) | ((with_reducible apply GPW.atEfu); first | refine GPW.efu (Ef.updG (enc := Stk.v) (e := sk) rfl rfl rfl rfl) ?_ | refine GPW.efu (by exact Ef.updG (enc := Stk.v) (e := sk) rfl rfl rfl rfl) ?_))
  rintro _ _ rfl
  repeat (first | refine runB ?_ | intro _ | ((with_reducible apply G.atDraw); first | refine G.draw (N := 100) (id := 8) plL7_27_8 mixed (by kernel_rfl) ?_ | refine G.draw (N := 100) (id := 9) plL7_27_9 mixed (by kernel_rfl) ?_ | refine G.draw (N := 100) (id := 10) plL7_27_10 mixed (by kernel_rfl) ?_ | refine G.draw (N := 100) (id := 11) plL7_27_11 mixed (by kernel_rfl) ?_ | refine G.draw (N := 100) (id := 12) plL7_27_12 mixed (by kernel_rfl) ?_ | refine G.draw (N := 100) (id := 13) plL7_27_13 mixed (by kernel_rfl) ?_ | refine G.draw (N := 100) (id := 14) plL7_27_14 mixed (by kernel_rfl) ?_))
  refine GR.step ?_
  repeat (first | refine runB ?_ | intro _ | ((with_reducible apply G.atDraw); first | refine G.draw (N := 100) (id := 8) plL7_27_8 mixed (by kernel_rfl) ?_ | refine G.draw (N := 100) (id := 9) plL7_27_9 mixed (by kernel_rfl) ?_ | refine G.draw (N := 100) (id := 10) plL7_27_10 mixed (by kernel_rfl) ?_ | refine G.draw (N := 100) (id := 11) plL7_27_11 mixed (by kernel_rfl) ?_ | refine G.draw (N := 100) (id := 12) plL7_27_12 mixed (by kernel_rfl) ?_ | refine G.draw (N := 100) (id := 13) plL7_27_13 mixed (by kernel_rfl) ?_ | refine G.draw (N := 100) (id := 14) plL7_27_14 mixed (by kernel_rfl) ?_))
  (first | ((with_reducible apply GO.atPlain); first | refine GO.ef (Ef.nextG rfl) (by decide) ?_ | refine GO.ef (by exact Ef.nextG rfl) (by decide) ?_) | ((with_reducible apply GPW.atEf); first | refine GPW.ef (Ef.nextG rfl) (by decide) ?_ | refine GPW.ef (by exact Ef.nextG rfl) (by decide) ?_) | ((with_reducible apply GO.atUnit); first | refine GO.efu (Ef.nextG rfl) ?_ | refine GO.efu (by exact Ef.nextG rfl) ?_) | ((with_reducible apply GPW.atEfu); first | refine GPW.efu (Ef.nextG rfl) ?_ | refine GPW.efu (by exact Ef.nextG rfl) ?_))
  rintro _ _ (⟨rfl, rfl, hp⟩ | ⟨p, rfl, rfl, hpm, hpn, hl⟩)
  case inr => exact absurd (show p ∈ [] ++ [((to, item), sk)] by simpa using hpm) hpn
  repeat (first | refine runB ?_ | intro _ | ((with_reducible apply G.atDraw); first | refine G.draw (N := 100) (id := 8) plL7_27_8 mixed (by kernel_rfl) ?_ | refine G.draw (N := 100) (id := 9) plL7_27_9 mixed (by kernel_rfl) ?_ | refine G.draw (N := 100) (id := 10) plL7_27_10 mixed (by kernel_rfl) ?_ | refine G.draw (N := 100) (id := 11) plL7_27_11 mixed (by kernel_rfl) ?_ | refine G.draw (N := 100) (id := 12) plL7_27_12 mixed (by kernel_rfl) ?_ | refine G.draw (N := 100) (id := 13) plL7_27_13 mixed (by kernel_rfl) ?_ | refine G.draw (N := 100) (id := 14) plL7_27_14 mixed (by kernel_rfl) ?_))
  (first | ((with_reducible apply GO.atPlain); first | refine GO.ef (Ef.call (copyI_spec x.mt ct S.tot item (S.total item + n)) rfl (by repeat (first | exact Ent.refl _ | apply Ent.take))) (by decide) ?_ | refine GO.ef (by exact Ef.call (copyI_spec x.mt ct S.tot item (S.total item + n)) rfl (by repeat (first | exact Ent.refl _ | apply Ent.take))) (by decide) ?_) | ((with_reducible apply GPW.atEf); first | refine GPW.ef (Ef.call (copyI_spec x.mt ct S.tot item (S.total item + n)) rfl (by repeat (first | exact Ent.refl _ | apply Ent.take))) (by decide) ?_ | refine GPW.ef (by exact Ef.call (copyI_spec x.mt ct S.tot item (S.total item + n)) rfl (by repeat (first | exact Ent.refl _ | apply Ent.take))) (by decide) ?_))
  rintro _ _ ⟨_, rfl, hL⟩
  simp only [List.cons_append, List.nil_append] at hL; subst hL
  repeat (first | refine runB ?_ | intro _ | ((with_reducible apply G.atDraw); first | refine G.draw (N := 100) (id := 8) plL7_27_8 mixed (by kernel_rfl) ?_ | refine G.draw (N := 100) (id := 9) plL7_27_9 mixed (by kernel_rfl) ?_ | refine G.draw (N := 100) (id := 10) plL7_27_10 mixed (by kernel_rfl) ?_ | refine G.draw (N := 100) (id := 11) plL7_27_11 mixed (by kernel_rfl) ?_ | refine G.draw (N := 100) (id := 12) plL7_27_12 mixed (by kernel_rfl) ?_ | refine G.draw (N := 100) (id := 13) plL7_27_13 mixed (by kernel_rfl) ?_ | refine G.draw (N := 100) (id := 14) plL7_27_14 mixed (by kernel_rfl) ?_))
  (first | ((with_reducible apply GO.atPlain); first | refine GO.ef (Ef.call (copyL_spec x.mi ci []) rfl (by repeat (first | exact Ent.refl _ | apply Ent.take))) (by decide) ?_ | refine GO.ef (by exact Ef.call (copyL_spec x.mi ci []) rfl (by repeat (first | exact Ent.refl _ | apply Ent.take))) (by decide) ?_) | ((with_reducible apply GPW.atEf); first | refine GPW.ef (Ef.call (copyL_spec x.mi ci []) rfl (by repeat (first | exact Ent.refl _ | apply Ent.take))) (by decide) ?_ | refine GPW.ef (by exact Ef.call (copyL_spec x.mi ci []) rfl (by repeat (first | exact Ent.refl _ | apply Ent.take))) (by decide) ?_))
  rintro _ _ ⟨_, rfl, hL⟩
  simp only [List.cons_append, List.nil_append] at hL; subst hL
  repeat (first | refine runB ?_ | intro _ | ((with_reducible apply G.atDraw); first | refine G.draw (N := 100) (id := 8) plL7_27_8 mixed (by kernel_rfl) ?_ | refine G.draw (N := 100) (id := 9) plL7_27_9 mixed (by kernel_rfl) ?_ | refine G.draw (N := 100) (id := 10) plL7_27_10 mixed (by kernel_rfl) ?_ | refine G.draw (N := 100) (id := 11) plL7_27_11 mixed (by kernel_rfl) ?_ | refine G.draw (N := 100) (id := 12) plL7_27_12 mixed (by kernel_rfl) ?_ | refine G.draw (N := 100) (id := 13) plL7_27_13 mixed (by kernel_rfl) ?_ | refine G.draw (N := 100) (id := 14) plL7_27_14 mixed (by kernel_rfl) ?_))
  (first | ((with_reducible apply GO.atPlain); first | refine GO.ef (Ef.call (copyL_spec x.mr cr []) rfl (by repeat (first | exact Ent.refl _ | apply Ent.take))) (by decide) ?_ | refine GO.ef (by exact Ef.call (copyL_spec x.mr cr []) rfl (by repeat (first | exact Ent.refl _ | apply Ent.take))) (by decide) ?_) | ((with_reducible apply GPW.atEf); first | refine GPW.ef (Ef.call (copyL_spec x.mr cr []) rfl (by repeat (first | exact Ent.refl _ | apply Ent.take))) (by decide) ?_ | refine GPW.ef (by exact Ef.call (copyL_spec x.mr cr []) rfl (by repeat (first | exact Ent.refl _ | apply Ent.take))) (by decide) ?_))
  rintro _ _ ⟨_, rfl, hL⟩
  simp only [List.cons_append, List.nil_append] at hL; subst hL
  repeat (first | refine runB ?_ | intro _ | ((with_reducible apply G.atDraw); first | refine G.draw (N := 100) (id := 8) plL7_27_8 mixed (by kernel_rfl) ?_ | refine G.draw (N := 100) (id := 9) plL7_27_9 mixed (by kernel_rfl) ?_ | refine G.draw (N := 100) (id := 10) plL7_27_10 mixed (by kernel_rfl) ?_ | refine G.draw (N := 100) (id := 11) plL7_27_11 mixed (by kernel_rfl) ?_ | refine G.draw (N := 100) (id := 12) plL7_27_12 mixed (by kernel_rfl) ?_ | refine G.draw (N := 100) (id := 13) plL7_27_13 mixed (by kernel_rfl) ?_ | refine G.draw (N := 100) (id := 14) plL7_27_14 mixed (by kernel_rfl) ?_))
  (first | ((with_reducible apply GO.atPlain); first | refine GO.ef (Ef.appendS (enc := encRaw) (ys := [fl]) rfl rfl rfl rfl rfl (by intro e he; simp at he; subst he; exact hfo) (by simp; omega) (by simp; omega)) (by decide) ?_ | refine GO.ef (by exact Ef.appendS (enc := encRaw) (ys := [fl]) rfl rfl rfl rfl rfl (by intro e he; simp at he; subst he; exact hfo) (by simp; omega) (by simp; omega)) (by decide) ?_) | ((with_reducible apply GPW.atEf); first | refine GPW.ef (Ef.appendS (enc := encRaw) (ys := [fl]) rfl rfl rfl rfl rfl (by intro e he; simp at he; subst he; exact hfo) (by simp; omega) (by simp; omega)) (by decide) ?_ | refine GPW.ef (by exact Ef.appendS (enc := encRaw) (ys := [fl]) rfl rfl rfl rfl rfl (by intro e he; simp at he; subst he; exact hfo) (by simp; omega) (by simp; omega)) (by decide) ?_) | ((with_reducible apply GO.atUnit); first | refine GO.efu (Ef.appendS (enc := encRaw) (ys := [fl]) rfl rfl rfl rfl rfl (by intro e he; simp at he; subst he; exact hfo) (by simp; omega) (by simp; omega)) ?_ | refine GO.efu (by exact Ef.appendS (enc := encRaw) (ys := [fl]) rfl rfl rfl rfl rfl (by intro e he; simp at he; subst he; exact hfo) (by simp; omega) (by simp; omega)) ?_) | ((with_reducible apply GPW.atEfu); first | refine GPW.efu (Ef.appendS (enc := encRaw) (ys := [fl]) rfl rfl rfl rfl rfl (by intro e he; simp at he; subst he; exact hfo) (by simp; omega) (by simp; omega)) ?_ | refine GPW.efu (by exact Ef.appendS (enc := encRaw) (ys := [fl]) rfl rfl rfl rfl rfl (by intro e he; simp at he; subst he; exact hfo) (by simp; omega) (by simp; omega)) ?_))
  rintro _ _ ⟨fad2, fcap2, rfl, rfl⟩
  repeat (first | refine runB ?_ | intro _ | ((with_reducible apply G.atDraw); first | refine G.draw (N := 100) (id := 8) plL7_27_8 mixed (by kernel_rfl) ?_ | refine G.draw (N := 100) (id := 9) plL7_27_9 mixed (by kernel_rfl) ?_ | refine G.draw (N := 100) (id := 10) plL7_27_10 mixed (by kernel_rfl) ?_ | refine G.draw (N := 100) (id := 11) plL7_27_11 mixed (by kernel_rfl) ?_ | refine G.draw (N := 100) (id := 12) plL7_27_12 mixed (by kernel_rfl) ?_ | refine G.draw (N := 100) (id := 13) plL7_27_13 mixed (by kernel_rfl) ?_ | refine G.draw (N := 100) (id := 14) plL7_27_14 mixed (by kernel_rfl) ?_))
  (first | ((with_reducible apply GO.atPlain); first | refine GO.ef (Ef.append1 (enc := encSt) (e := (⟨S.shard * 4294967296 + S.nst, 0, 0, 0, -1, 0, ad, 1, 1⟩ : StpV)) rfl rfl rfl rfl rfl (by rfl) (encSt_one _) (by omega) (by omega)) (by decide) ?_ | refine GO.ef (by exact Ef.append1 (enc := encSt) (e := (⟨S.shard * 4294967296 + S.nst, 0, 0, 0, -1, 0, ad, 1, 1⟩ : StpV)) rfl rfl rfl rfl rfl (by rfl) (encSt_one _) (by omega) (by omega)) (by decide) ?_) | ((with_reducible apply GPW.atEf); first | refine GPW.ef (Ef.append1 (enc := encSt) (e := (⟨S.shard * 4294967296 + S.nst, 0, 0, 0, -1, 0, ad, 1, 1⟩ : StpV)) rfl rfl rfl rfl rfl (by rfl) (encSt_one _) (by omega) (by omega)) (by decide) ?_ | refine GPW.ef (by exact Ef.append1 (enc := encSt) (e := (⟨S.shard * 4294967296 + S.nst, 0, 0, 0, -1, 0, ad, 1, 1⟩ : StpV)) rfl rfl rfl rfl rfl (by rfl) (encSt_one _) (by omega) (by omega)) (by decide) ?_) | ((with_reducible apply GO.atUnit); first | refine GO.efu (Ef.append1 (enc := encSt) (e := (⟨S.shard * 4294967296 + S.nst, 0, 0, 0, -1, 0, ad, 1, 1⟩ : StpV)) rfl rfl rfl rfl rfl (by rfl) (encSt_one _) (by omega) (by omega)) ?_ | refine GO.efu (by exact Ef.append1 (enc := encSt) (e := (⟨S.shard * 4294967296 + S.nst, 0, 0, 0, -1, 0, ad, 1, 1⟩ : StpV)) rfl rfl rfl rfl rfl (by rfl) (encSt_one _) (by omega) (by omega)) ?_) | ((with_reducible apply GPW.atEfu); first | refine GPW.efu (Ef.append1 (enc := encSt) (e := (⟨S.shard * 4294967296 + S.nst, 0, 0, 0, -1, 0, ad, 1, 1⟩ : StpV)) rfl rfl rfl rfl rfl (by rfl) (encSt_one _) (by omega) (by omega)) ?_ | refine GPW.efu (by exact Ef.append1 (enc := encSt) (e := (⟨S.shard * 4294967296 + S.nst, 0, 0, 0, -1, 0, ad, 1, 1⟩ : StpV)) rfl rfl rfl rfl rfl (by rfl) (encSt_one _) (by omega) (by omega)) ?_))
  rintro _ _ ⟨sad2, scap2, rfl, rfl⟩
  repeat (first | refine runB ?_ | intro _ | ((with_reducible apply G.atDraw); first | refine G.draw (N := 100) (id := 8) plL7_27_8 mixed (by kernel_rfl) ?_ | refine G.draw (N := 100) (id := 9) plL7_27_9 mixed (by kernel_rfl) ?_ | refine G.draw (N := 100) (id := 10) plL7_27_10 mixed (by kernel_rfl) ?_ | refine G.draw (N := 100) (id := 11) plL7_27_11 mixed (by kernel_rfl) ?_ | refine G.draw (N := 100) (id := 12) plL7_27_12 mixed (by kernel_rfl) ?_ | refine G.draw (N := 100) (id := 13) plL7_27_13 mixed (by kernel_rfl) ?_ | refine G.draw (N := 100) (id := 14) plL7_27_14 mixed (by kernel_rfl) ?_))
  refine KX.ends (by first | exact ResOk.tmps rfl | (repeat (first | exact ResOk.nil | apply ResOk.tmp rfl | apply ResOk.cell rfl (by rfl) | apply ResOk.cell1 rfl))) ?_ ⟨rfl, rfl⟩
  refine (Ent.at (A := stkP sk) (Ent.consR (Ent.at (A := allP (fun p : (Int × Int) × Stk => stkP p.2) x.stk) (Ent.refl _)))).trans ?_
  refine (Ent.allP_cons (f := fun p : (Int × Int) × Stk => stkP p.2) (fun p => stkP_m p.2) (x := ((to, item), sk)) (l := x.stk)).trans ?_
  refine (Ent.allP_sub (l' := gins x.stk (to, item) sk) gins_sub).trans ?_
  refine Ent.trans ?_ (ledClose { x with stk := gins x.stk (to, item) sk, sad := sad2, scap := scap2, steps := x.steps ++ [⟨S.shard * 4294967296 + S.nst, 0, 0, 0, -1, 0, ad, 1, 1⟩], fad := fad2, fcap := fcap2, flows := x.flows ++ [fl] } ⟨?_, ?_, ?_, ?_⟩)
  · simp only [ledL, ledCells, LedS.spawn]
    repeat (first | exact Ent.refl _ | exact Ent.nil _ | refine Ent.take' ?_ | refine Ent.trans Ent.drop ?_)
  · simp only [LedS.spawn]
    rw [← hF.stk, ← hsk]
    exact (gins_map (fun s : Stk => s.lots) x.stk (to, item) sk).symm
  · simp [LedS.spawn, hst]
  · intro s hs
    rcases List.mem_append.1 hs with hs | hs
    · exact hF.ticks s hs
    · simp at hs; subst hs; rfl
  · simp [LedS.spawn, hfl]
end Go.Proofs.YtclgjkeeaopppaaGreatDoor
