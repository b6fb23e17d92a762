/- ChannelEncoding. -/
import Derived.Test.YtnpienjfapjjoaaW7
import Derived.Test.YtnpienjfapjjoaaC16
import Derived.Test.YtnpienjfapjjoaaV13
namespace Go.Proofs.Ytnpienjfapjjoaa
open Go.V
theorem uvPos (n : Nat) : 0 < (uv n).length := by
  by_cases h : n < 128
  · rw [uv_small h]; simp
  · rw [uv_big h]; simp
theorem decP_len (l : List Int) : (decP l).1.2.2.length ≤ l.length := by
  have h1 := (readR_len l 0).1
  unfold decP
  split
  · simp
  · split
    · simp
    · split
      · simp
      · simp only []
        refine Nat.le_trans (readR_len _ _).1 (Nat.le_trans (readU_len _ _) (Nat.le_trans (readU_len _ _) h1))
def encB (s k : Int) (xs : List Int) : List Int := if validB s k xs.length then wholeB (coreB s k xs) else []
def encE (s k : Int) (n : Nat) : Int := if validB s k n then 0 else 1
theorem encB_byte (s k : Int) {xs : List Int} (h : ByteL xs) : ByteL (encB s k xs) := by
  unfold encB
  split
  · exact wholeB_byte (coreB_byte s k h)
  · simp [ByteL]
theorem encB_len {s k : Int} {xs : List Int} (h1 : -9223372036854775808 ≤ s ∧ s ≤ 9223372036854775807) (h2 : -9223372036854775808 ≤ k ∧ k ≤ 9223372036854775807) (hx : xs.length ≤ 65536) : (encB s k xs).length ≤ 100000 := by
  unfold encB
  split
  · have hcl := coreB_len h1 h2 hx
    have a4 := uv_len10 (n := (coreB s k xs).length) (by omega)
    have a5 := uv_len10 (parcelH_lt (coreB s k xs))
    simp only [wholeB, List.length_append]
    omega
  · simp
attribute [local irreducible] G GO GP GPW GPK Ev Ef EfR Ent CB GB validB
theorem encode_any {L : List HP} (s k : Int) (ad : Option Addr) (n c : Nat) (xs : List Int) [hrd : Rds L ad Int (encI .u8) 1 xs] (hn : n = xs.length) (hb : ByteL xs) (h1 : -9223372036854775808 ≤ s ∧ s ≤ 9223372036854775807) (h2 : -9223372036854775808 ≤ k ∧ k ≤ 9223372036854775807) :
    Tri Try.prog 28 #[.agg #[.int .i64 s, .int .i64 k, .slice ad n c]] L (fun v L' => ∃ ad' cap, v = .tuple #[.slice ad' (encB s k xs).length cap, .int .i64 (encE s k n)] ∧ (encB s k xs).length ≤ cap ∧ L' = osl (encI .u8) 1 5 ad' cap (encB s k xs) :: L) := by
  subst hn
  cases h : validB s k xs.length with
  | true =>
    rw [show encB s k xs = wholeB (coreB s k xs) by simp [encB, h], show encE s k xs.length = 0 by simp [encE, h]]
    exact encode_ok s k ad xs.length c xs rfl hb h1 h2 h
  | false =>
    rw [show encB s k xs = [] by simp [encB, h], show encE s k xs.length = 1 by simp [encE, h]]
    refine Tri.body (args := [.agg #[.int .i64 s, .int .i64 k, .slice ad xs.length c]]) 36 en28 Try.func28 rfl rfl rfl (by simp) ?_
    repeat (first | refine run ?_ | intro _)
    (first | ((with_reducible apply GO.atPlain); first | refine GO.ef (Ef.call (valid_spec s k ad xs.length c) rfl (by repeat (first | exact Ent.refl _ | refine Ent.take ?_))) (by decide) ?_ | refine GO.ef (by exact Ef.call (valid_spec s k ad xs.length c) rfl (by repeat (first | exact Ent.refl _ | refine Ent.take ?_))) (by decide) ?_) | ((with_reducible apply GPW.atEf); first | refine GPW.ef (Ef.call (valid_spec s k ad xs.length c) rfl (by repeat (first | exact Ent.refl _ | refine Ent.take ?_))) (by decide) ?_ | refine GPW.ef (by exact Ef.call (valid_spec s k ad xs.length c) rfl (by repeat (first | exact Ent.refl _ | refine Ent.take ?_))) (by decide) ?_))
    rintro _ _ ⟨_, ⟨rfl, rfl⟩, hL⟩
    simp only [List.cons_append, List.nil_append] at hL; subst hL
    rw [h]
    repeat (first | refine run ?_ | intro _)
    exact KX.ends (by first | exact ResOk.tmps rfl | (repeat (first | exact ResOk.nil | refine ResOk.tmp rfl ?_ | refine ResOk.cell rfl (by rfl) ?_ | refine ResOk.cell1 rfl ?_))) (Ent.drop.trans (Ent.nilSl (encI .u8) 1 5)) ⟨none, 0, rfl, Nat.le_refl _, rfl⟩
theorem rencode_any {L : List HP} (s k : Int) (ad : Option Addr) (n c : Nat) (xs : List Int) [hrd : Rds L ad Int (encI .u8) 1 xs] (hn : n = xs.length) (hb : ByteL xs) (h1 : -9223372036854775808 ≤ s ∧ s ≤ 9223372036854775807) (h2 : -9223372036854775808 ≤ k ∧ k ≤ 9223372036854775807) :
    Tri Try.prog 29 #[.agg #[.int .i64 s, .int .i64 k, .slice ad n c]] L (fun v L' => ∃ ad' cap, v = .tuple #[.slice ad' (encB s k xs).length cap, .int .i64 (encE s k n)] ∧ (encB s k xs).length ≤ cap ∧ L' = osl (encI .u8) 1 5 ad' cap (encB s k xs) :: L) := by
  subst hn
  cases h : validB s k xs.length with
  | true =>
    rw [show encB s k xs = wholeB (coreB s k xs) by simp [encB, h], show encE s k xs.length = 0 by simp [encE, h]]
    exact rencode_ok s k ad xs.length c xs rfl hb h1 h2 h
  | false =>
    rw [show encB s k xs = [] by simp [encB, h], show encE s k xs.length = 1 by simp [encE, h]]
    refine Tri.body (args := [.agg #[.int .i64 s, .int .i64 k, .slice ad xs.length c]]) 12 en29 Try.func29 rfl rfl rfl (by simp) ?_
    repeat (first | refine run ?_ | intro _)
    (first | ((with_reducible apply GO.atPlain); first | refine GO.ef (Ef.call (rvalid_spec s k ad xs.length c) rfl (by repeat (first | exact Ent.refl _ | refine Ent.take ?_))) (by decide) ?_ | refine GO.ef (by exact Ef.call (rvalid_spec s k ad xs.length c) rfl (by repeat (first | exact Ent.refl _ | refine Ent.take ?_))) (by decide) ?_) | ((with_reducible apply GPW.atEf); first | refine GPW.ef (Ef.call (rvalid_spec s k ad xs.length c) rfl (by repeat (first | exact Ent.refl _ | refine Ent.take ?_))) (by decide) ?_ | refine GPW.ef (by exact Ef.call (rvalid_spec s k ad xs.length c) rfl (by repeat (first | exact Ent.refl _ | refine Ent.take ?_))) (by decide) ?_))
    rintro _ _ ⟨_, ⟨rfl, rfl⟩, hL⟩
    simp only [List.cons_append, List.nil_append] at hL; subst hL
    rw [h]
    repeat (first | refine run ?_ | intro _)
    exact KX.ends (by first | exact ResOk.tmps rfl | (repeat (first | exact ResOk.nil | refine ResOk.tmp rfl ?_ | refine ResOk.cell rfl (by rfl) ?_ | refine ResOk.cell1 rfl ?_))) (Ent.drop.trans (Ent.nilSl (encI .u8) 1 5)) ⟨none, 0, rfl, Nat.le_refl _, rfl⟩
abbrev plW8_8_6 : List Stp := [.ev 0, .ev 1, .ev 4, .ev 5, .ev 7, .ev 8, .ef 2, .ev 3, .ef 6, .ev 9, .ef 10, .ef 11]
abbrev plW8_8_19 : List Stp := [.ev 0, .ev 1, .ev 2, .ev 3, .ev 4, .ev 6, .ef 5, .ef 7, .ev 8, .ev 9]
set_option maxHeartbeats 2000000 in
theorem encoding_spec (s k : Int) (hs : -9223372036854775808 ≤ s ∧ s ≤ 9223372036854775807) (hk : -9223372036854775808 ≤ k ∧ k ≤ 9223372036854775807) (ad : Option Addr) (n c : Nat) (b : List Int) (hn : n = b.length) (hm : n ≤ c ∧ c ≤ maxLen) (hb : ∀ x ∈ b, 0 ≤ x ∧ x ≤ 255) (at_ : Int) (h2 : -9223372036854775808 ≤ at_ ∧ at_ ≤ 9223372036854775807) (c_ : Int) (h3 : 0 ≤ c_ ∧ c_ ≤ 255) (ad' : Option Addr) (n' c' : Nat) (raw : List Int) (hn' : n' = raw.length) (hm' : n' ≤ c' ∧ c' ≤ maxLen) (hb' : ∀ x ∈ raw, 0 ≤ x ∧ x ≤ 255) :
    Tri Try.prog 8 #[.agg #[.int .i64 s, .int .i64 k, .slice ad n c], .int .i64 at_, .int .u8 c_, .slice ad' n' c'] [isl (encI .u8) 1 ad b, isl (encI .u8) 1 ad' raw] (fun v L => v = .bool true ∧ True) := by
  refine Tri.body (args := [.agg #[.int .i64 s, .int .i64 k, .slice ad n c], .int .i64 at_, .int .u8 c_, .slice ad' n' c']) 117 en8 Try.func8 rfl rfl rfl (by simp) ?_
  repeat (first | refine run ?_ | intro _ | ((with_reducible apply G.atDraw); first | refine G.draw (id := 19) plW8_8_19 mixed (by kernel_rfl) ?_))
  rename_i pp
  (first | ((with_reducible apply GO.atPlain); first | refine GO.ef (Ef.callAll (few_spec ad n c b 40 hn hm.1 (by decide) (by decide)) rfl) (by decide) ?_ | refine GO.ef (by exact Ef.callAll (few_spec ad n c b 40 hn hm.1 (by decide) (by decide)) rfl) (by decide) ?_) | ((with_reducible apply GPW.atEf); first | refine GPW.ef (Ef.callAll (few_spec ad n c b 40 hn hm.1 (by decide) (by decide)) rfl) (by decide) ?_ | refine GPW.ef (by exact Ef.callAll (few_spec ad n c b 40 hn hm.1 (by decide) (by decide)) rfl) (by decide) ?_))
  rintro _ _ ⟨fad, fcap, rfl, hfc, rfl⟩
  have hfl : (b.take (40 : Int).toNat).length ≤ 40 := by rw [List.length_take]; exact Nat.min_le_left _ _
  have hfb : ByteL (b.take (40 : Int).toNat) := fun x hx => hb x (List.mem_of_mem_take hx)
  generalize b.take (40 : Int).toNat = xs at hfl hfb hfc
  repeat (first | refine run ?_ | intro _ | ((with_reducible apply G.atDraw); first | refine G.draw (id := 19) plW8_8_19 mixed (by kernel_rfl) ?_))
  (first | ((with_reducible apply GO.atPlain); first | refine GO.ef (Ef.callAll (encode_any s k fad xs.length fcap xs rfl hfb hs hk) rfl) (by decide) ?_ | refine GO.ef (by exact Ef.callAll (encode_any s k fad xs.length fcap xs rfl hfb hs hk) rfl) (by decide) ?_) | ((with_reducible apply GPW.atEf); first | refine GPW.ef (Ef.callAll (encode_any s k fad xs.length fcap xs rfl hfb hs hk) rfl) (by decide) ?_ | refine GPW.ef (by exact Ef.callAll (encode_any s k fad xs.length fcap xs rfl hfb hs hk) rfl) (by decide) ?_))
  rintro _ _ ⟨ead, ecap, rfl, hec, rfl⟩
  have hBb := encB_byte s k hfb
  have hBl := encB_len (s := s) (k := k) (xs := xs) hs hk (by omega)
  repeat (first | refine run ?_ | intro _ | ((with_reducible apply G.atDraw); first | refine G.draw (id := 19) plW8_8_19 mixed (by kernel_rfl) ?_))
  (first | ((with_reducible apply GO.atPlain); first | refine GO.ef (Ef.call (plain_spec s k fad xs.length fcap) rfl (by repeat (first | exact Ent.refl _ | refine Ent.take ?_))) (by decide) ?_ | refine GO.ef (by exact Ef.call (plain_spec s k fad xs.length fcap) rfl (by repeat (first | exact Ent.refl _ | refine Ent.take ?_))) (by decide) ?_) | ((with_reducible apply GPW.atEf); first | refine GPW.ef (Ef.call (plain_spec s k fad xs.length fcap) rfl (by repeat (first | exact Ent.refl _ | refine Ent.take ?_))) (by decide) ?_ | refine GPW.ef (by exact Ef.call (plain_spec s k fad xs.length fcap) rfl (by repeat (first | exact Ent.refl _ | refine Ent.take ?_))) (by decide) ?_))
  rintro _ _ ⟨_, ⟨rfl, rfl⟩, hL⟩
  simp only [List.cons_append, List.nil_append] at hL; subst hL
  (first | ((with_reducible apply GO.atPlain); first | refine GO.ef (Ef.callAll (rencode_any s k fad xs.length fcap xs rfl hfb hs hk) rfl) (by decide) ?_ | refine GO.ef (by exact Ef.callAll (rencode_any s k fad xs.length fcap xs rfl hfb hs hk) rfl) (by decide) ?_) | ((with_reducible apply GPW.atEf); first | refine GPW.ef (Ef.callAll (rencode_any s k fad xs.length fcap xs rfl hfb hs hk) rfl) (by decide) ?_ | refine GPW.ef (by exact Ef.callAll (rencode_any s k fad xs.length fcap xs rfl hfb hs hk) rfl) (by decide) ?_))
  rintro _ _ ⟨wad, wcap, rfl, hwc, rfl⟩
  generalize encB s k xs = B at hBb hBl hec hwc
  generalize encE s k xs.length = E
  repeat (first | refine run ?_ | intro _ | ((with_reducible apply G.atDraw); first | refine G.draw (id := 19) plW8_8_19 mixed (by kernel_rfl) ?_))
  (first | ((with_reducible apply GO.atPlain); first | refine GO.ef (Ef.callAll (sameBytes_spec ead B.length ecap B wad B.length wcap B rfl rfl (by omega)) rfl) (by decide) ?_ | refine GO.ef (by exact Ef.callAll (sameBytes_spec ead B.length ecap B wad B.length wcap B rfl rfl (by omega)) rfl) (by decide) ?_) | ((with_reducible apply GPW.atEf); first | refine GPW.ef (Ef.callAll (sameBytes_spec ead B.length ecap B wad B.length wcap B rfl rfl (by omega)) rfl) (by decide) ?_ | refine GPW.ef (by exact Ef.callAll (sameBytes_spec ead B.length ecap B wad B.length wcap B rfl rfl (by omega)) rfl) (by decide) ?_))
  rintro _ _ ⟨rfl, rfl⟩
  rw [dB_pos rfl]
  have hsa := around_bd s (k := 300) (by decide)
  have hka := around_bd k (k := 300) (by decide)
  repeat (first | ((fail_if_success (with_reducible refine G.atS 6 ?_)); (with_reducible apply G.seq)) | refine runS ?_ | intro _ | ((with_reducible apply G.atDraw); first | refine G.draw (id := 19) plW8_8_19 mixed (by kernel_rfl) ?_))
  refine G.join (α := Nat) (fun _ => True) (fun gp => [(1, .int .i64 at_), (2, .int .u8 c_), (3, .slice ad' n' c'), (8, .bool false), (9, .slice ead B.length ecap), (13, .pointer (some ⟨gp, 0, none⟩))]) (fun gp => [obj gp 40 [.int .i64 (1 + around s 300), .int .i64 (around k 300), .slice fad xs.length fcap], osl (encI .u8) 1 5 ead ecap B, osl (encI .u8) 1 5 fad fcap xs, isl (encI .u8) 1 ad' raw]) ?_ ?_
  · refine G.drawF mixed (by kernel_rfl) ?_
    refine GF.evP (i := 0) rfl (by kernel_rfl) (Ev.fieldAddr rfl) (by decide) ?_
    refine GF.evL (i := 1) rfl (by kernel_rfl) (Ev.loadObj rfl rfl) (by decide) ?_
    refine GF.evP (i := 4) rfl (by kernel_rfl) (Ev.fieldAddr rfl) (by decide) ?_
    refine GF.evL (i := 5) rfl (by kernel_rfl) (Ev.loadObj rfl rfl) (by decide) ?_
    refine GF.evP (i := 7) rfl (by kernel_rfl) (Ev.fieldAddr rfl) (by decide) ?_
    refine GF.evL (i := 8) rfl (by kernel_rfl) (Ev.loadObj rfl rfl) (by decide) ?_
    refine GF.fork2 2 10 (by kernel_rfl) ?_ ?_
    · refine GE.ef rfl (Ef.call (around_spec s 300 hs.1 hs.2 (by decide) (by decide)) rfl (by repeat (first | exact Ent.refl _ | refine Ent.take ?_))) (by decide) ?_
      rintro _ _ ⟨_, ⟨rfl, rfl⟩, hL⟩
      simp only [List.cons_append, List.nil_append] at hL; subst hL
      refine ⟨(by intro pe hp; simp only [List.mem_cons, List.not_mem_nil, or_false] at hp; rcases hp with rfl | rfl | rfl <;> exact Ev.loadObj rfl rfl), ?_⟩
      refine GF.evP (i := 3) rfl (by kernel_rfl) (Ev.add rfl rfl (by omega) (by omega)) (by decide) ?_
      refine GF.fork2 6 10 (by kernel_rfl) ?_ ?_
      · refine GE.ef rfl (Ef.call (around_spec k 300 hk.1 hk.2 (by decide) (by decide)) rfl (by repeat (first | exact Ent.refl _ | refine Ent.take ?_))) (by decide) ?_
        rintro _ _ ⟨_, ⟨rfl, rfl⟩, hL⟩
        simp only [List.cons_append, List.nil_append] at hL; subst hL
        refine ⟨(by intro pe hp; simp only [List.mem_cons, List.not_mem_nil, or_false] at hp; rcases hp with rfl | rfl | rfl <;> exact Ev.loadObj rfl rfl), ?_⟩
        refine GF.plan [.ev 9, .ef 10, .ef 11] (by kernel_rfl) rfl ?_
        repeat (first | refine run ?_ | intro _ | ((with_reducible apply G.atDraw); first | refine G.draw (id := 19) plW8_8_19 mixed (by kernel_rfl) ?_))
        exact ⟨_, trivial, (by repeat (first | exact EnvSub.nil _ | refine EnvSub.cons rfl ?_)), by repeat (first | exact Ent.refl _ | exact Ent.nil _ | refine Ent.take' ?_ | refine Ent.trans Ent.drop ?_)⟩
      · refine GE.ef rfl Ef.alloc (by decide) ?_
        rintro _ _ ⟨gp, rfl, rfl⟩
        refine ⟨(by intro pe hp; simp only [List.mem_cons, List.not_mem_nil, or_false] at hp; rcases hp with rfl | rfl | rfl <;> exact Ev.loadObj rfl rfl), ?_⟩
        refine GF.plan [.ef 6, .ev 9, .ef 11] (by kernel_rfl) rfl ?_
        repeat (first | refine run ?_ | intro _ | ((with_reducible apply G.atDraw); first | refine G.draw (id := 19) plW8_8_19 mixed (by kernel_rfl) ?_))
        (first | ((with_reducible apply GO.atPlain); first | refine GO.ef (Ef.call (around_spec k 300 hk.1 hk.2 (by decide) (by decide)) rfl (by repeat (first | exact Ent.refl _ | refine Ent.take ?_))) (by decide) ?_ | refine GO.ef (by exact Ef.call (around_spec k 300 hk.1 hk.2 (by decide) (by decide)) rfl (by repeat (first | exact Ent.refl _ | refine Ent.take ?_))) (by decide) ?_) | ((with_reducible apply GPW.atEf); first | refine GPW.ef (Ef.call (around_spec k 300 hk.1 hk.2 (by decide) (by decide)) rfl (by repeat (first | exact Ent.refl _ | refine Ent.take ?_))) (by decide) ?_ | refine GPW.ef (by exact Ef.call (around_spec k 300 hk.1 hk.2 (by decide) (by decide)) rfl (by repeat (first | exact Ent.refl _ | refine Ent.take ?_))) (by decide) ?_))
        rintro _ _ ⟨_, ⟨rfl, rfl⟩, hL⟩
        simp only [List.cons_append, List.nil_append] at hL; subst hL
        repeat (first | refine run ?_ | intro _ | ((with_reducible apply G.atDraw); first | refine G.draw (id := 19) plW8_8_19 mixed (by kernel_rfl) ?_))
        exact ⟨_, trivial, (by repeat (first | exact EnvSub.nil _ | refine EnvSub.cons rfl ?_)), by repeat (first | exact Ent.refl _ | exact Ent.nil _ | refine Ent.take' ?_ | refine Ent.trans Ent.drop ?_)⟩
    · refine GE.ef rfl Ef.alloc (by decide) ?_
      rintro _ _ ⟨gp, rfl, rfl⟩
      refine ⟨(by intro pe hp; simp only [List.mem_cons, List.not_mem_nil, or_false] at hp; rcases hp with rfl | rfl | rfl <;> exact Ev.loadObj rfl rfl), ?_⟩
      refine GF.plan [.ef 2, .ev 3, .ef 6, .ev 9, .ef 11] (by kernel_rfl) rfl ?_
      repeat (first | refine run ?_ | intro _ | ((with_reducible apply G.atDraw); first | refine G.draw (id := 19) plW8_8_19 mixed (by kernel_rfl) ?_))
      (first | ((with_reducible apply GO.atPlain); first | refine GO.ef (Ef.call (around_spec s 300 hs.1 hs.2 (by decide) (by decide)) rfl (by repeat (first | exact Ent.refl _ | refine Ent.take ?_))) (by decide) ?_ | refine GO.ef (by exact Ef.call (around_spec s 300 hs.1 hs.2 (by decide) (by decide)) rfl (by repeat (first | exact Ent.refl _ | refine Ent.take ?_))) (by decide) ?_) | ((with_reducible apply GPW.atEf); first | refine GPW.ef (Ef.call (around_spec s 300 hs.1 hs.2 (by decide) (by decide)) rfl (by repeat (first | exact Ent.refl _ | refine Ent.take ?_))) (by decide) ?_ | refine GPW.ef (by exact Ef.call (around_spec s 300 hs.1 hs.2 (by decide) (by decide)) rfl (by repeat (first | exact Ent.refl _ | refine Ent.take ?_))) (by decide) ?_))
      rintro _ _ ⟨_, ⟨rfl, rfl⟩, hL⟩
      simp only [List.cons_append, List.nil_append] at hL; subst hL
      repeat (first | refine run ?_ | intro _ | ((with_reducible apply G.atDraw); first | refine G.draw (id := 19) plW8_8_19 mixed (by kernel_rfl) ?_))
      (first | ((with_reducible apply GO.atPlain); first | refine GO.ef (Ef.call (around_spec k 300 hk.1 hk.2 (by decide) (by decide)) rfl (by repeat (first | exact Ent.refl _ | refine Ent.take ?_))) (by decide) ?_ | refine GO.ef (by exact Ef.call (around_spec k 300 hk.1 hk.2 (by decide) (by decide)) rfl (by repeat (first | exact Ent.refl _ | refine Ent.take ?_))) (by decide) ?_) | ((with_reducible apply GPW.atEf); first | refine GPW.ef (Ef.call (around_spec k 300 hk.1 hk.2 (by decide) (by decide)) rfl (by repeat (first | exact Ent.refl _ | refine Ent.take ?_))) (by decide) ?_ | refine GPW.ef (by exact Ef.call (around_spec k 300 hk.1 hk.2 (by decide) (by decide)) rfl (by repeat (first | exact Ent.refl _ | refine Ent.take ?_))) (by decide) ?_))
      rintro _ _ ⟨_, ⟨rfl, rfl⟩, hL⟩
      simp only [List.cons_append, List.nil_append] at hL; subst hL
      repeat (first | refine run ?_ | intro _ | ((with_reducible apply G.atDraw); first | refine G.draw (id := 19) plW8_8_19 mixed (by kernel_rfl) ?_))
      exact ⟨_, trivial, (by repeat (first | exact EnvSub.nil _ | refine EnvSub.cons rfl ?_)), by repeat (first | exact Ent.refl _ | exact Ent.nil _ | refine Ent.take' ?_ | refine Ent.trans Ent.drop ?_)⟩
  rintro gp _
  generalize around s 300 = s' at hsa
  generalize around k 300 = k' at hka
  repeat (first | refine run ?_ | intro _ | ((with_reducible apply G.atDraw); first | refine G.draw (id := 19) plW8_8_19 mixed (by kernel_rfl) ?_))
  have hv : validB (1 + s') k' xs.length = true := by simp [validB]; omega
  (first | ((with_reducible apply GO.atPlain); first | refine GO.ef (Ef.callAll (rencode_ok (1 + s') k' fad xs.length fcap xs rfl hfb ⟨by omega, by omega⟩ ⟨by omega, by omega⟩ hv) rfl) (by decide) ?_ | refine GO.ef (by exact Ef.callAll (rencode_ok (1 + s') k' fad xs.length fcap xs rfl hfb ⟨by omega, by omega⟩ ⟨by omega, by omega⟩ hv) rfl) (by decide) ?_) | ((with_reducible apply GPW.atEf); first | refine GPW.ef (Ef.callAll (rencode_ok (1 + s') k' fad xs.length fcap xs rfl hfb ⟨by omega, by omega⟩ ⟨by omega, by omega⟩ hv) rfl) (by decide) ?_ | refine GPW.ef (by exact Ef.callAll (rencode_ok (1 + s') k' fad xs.length fcap xs rfl hfb ⟨by omega, by omega⟩ ⟨by omega, by omega⟩ hv) rfl) (by decide) ?_))
  rintro _ _ ⟨w2ad, w2cap, rfl, hw2, rfl⟩
  have hcl := coreB_len (s := 1 + s') (k := k') (xs := xs) ⟨by omega, by omega⟩ ⟨by omega, by omega⟩ (by omega)
  have hcb := coreB_byte (1 + s') k' hfb
  generalize coreB (1 + s') k' xs = cc at hcl hcb hw2
  have hWl : 0 < (wholeB cc).length ∧ (wholeB cc).length ≤ 100000 := by
    have a4 := uv_len10 (n := cc.length) (by omega)
    have a5 := uv_len10 (parcelH_lt cc)
    have a6 := uvPos cc.length
    simp only [wholeB, List.length_append]
    omega
  have hWb := wholeB_byte hcb
  generalize wholeB cc = W at hWl hWb hw2
  repeat (first | refine run ?_ | intro _ | ((with_reducible apply G.atDraw); first | refine G.draw (id := 19) plW8_8_19 mixed (by kernel_rfl) ?_))
  (first | ((with_reducible apply GO.atPlain); first | refine GO.ef (Ef.callAll (few_spec w2ad W.length w2cap W (W.length : Int) rfl hw2 (by omega) (by omega)) rfl) (by decide) ?_ | refine GO.ef (by exact Ef.callAll (few_spec w2ad W.length w2cap W (W.length : Int) rfl hw2 (by omega) (by omega)) rfl) (by decide) ?_) | ((with_reducible apply GPW.atEf); first | refine GPW.ef (Ef.callAll (few_spec w2ad W.length w2cap W (W.length : Int) rfl hw2 (by omega) (by omega)) rfl) (by decide) ?_ | refine GPW.ef (by exact Ef.callAll (few_spec w2ad W.length w2cap W (W.length : Int) rfl hw2 (by omega) (by omega)) rfl) (by decide) ?_))
  rintro _ _ ⟨tad, tcap, rfl, htc, rfl⟩
  rw [Int.toNat_natCast, List.take_length] at htc ⊢
  repeat (first | refine run ?_ | intro _ | ((with_reducible apply G.atDraw); first | refine G.draw (id := 19) plW8_8_19 mixed (by kernel_rfl) ?_))
  (first | ((with_reducible apply GO.atPlain); first | refine GO.ef (Ef.call (around_spec at_ W.length h2.1 h2.2 (by omega) (by omega)) rfl (by repeat (first | exact Ent.refl _ | refine Ent.take ?_))) (by decide) ?_ | refine GO.ef (by exact Ef.call (around_spec at_ W.length h2.1 h2.2 (by omega) (by omega)) rfl (by repeat (first | exact Ent.refl _ | refine Ent.take ?_))) (by decide) ?_) | ((with_reducible apply GPW.atEf); first | refine GPW.ef (Ef.call (around_spec at_ W.length h2.1 h2.2 (by omega) (by omega)) rfl (by repeat (first | exact Ent.refl _ | refine Ent.take ?_))) (by decide) ?_ | refine GPW.ef (by exact Ef.call (around_spec at_ W.length h2.1 h2.2 (by omega) (by omega)) rfl (by repeat (first | exact Ent.refl _ | refine Ent.take ?_))) (by decide) ?_))
  rintro _ _ ⟨_, ⟨rfl, rfl⟩, hL⟩
  simp only [List.cons_append, List.nil_append] at hL; subst hL
  have hat := around_bd at_ (k := (W.length : Int)) (by omega)
  obtain ⟨j, hj⟩ : ∃ j : Nat, around at_ (W.length : Int) = (j : Int) := ⟨(around at_ (W.length : Int)).toNat, by omega⟩
  have hj2 : j < W.length := by omega
  rw [hj]
  repeat (first | refine run ?_ | intro _ | ((with_reducible apply G.atDraw); first | refine G.draw (id := 19) plW8_8_19 mixed (by kernel_rfl) ?_))
  rw [Int.toNat_natCast]
  have hTb : ByteL (W.set j c_) := by
    intro x hx
    rcases List.mem_or_eq_of_mem_set hx with hx | hx
    · exact hWb x hx
    · subst hx; exact h3
  have hTl : (W.set j c_).length = W.length := List.length_set ..
  generalize W.set j c_ = T at hTb hTl
  (first | ((with_reducible apply GO.atPlain); first | refine GO.ef (Ef.callAll (few_spec ad' n' c' raw 40 hn' hm'.1 (by decide) (by decide)) rfl) (by decide) ?_ | refine GO.ef (by exact Ef.callAll (few_spec ad' n' c' raw 40 hn' hm'.1 (by decide) (by decide)) rfl) (by decide) ?_) | ((with_reducible apply GPW.atEf); first | refine GPW.ef (Ef.callAll (few_spec ad' n' c' raw 40 hn' hm'.1 (by decide) (by decide)) rfl) (by decide) ?_ | refine GPW.ef (by exact Ef.callAll (few_spec ad' n' c' raw 40 hn' hm'.1 (by decide) (by decide)) rfl) (by decide) ?_))
  rintro _ _ ⟨rad, rcap, rfl, hrc, rfl⟩
  have hrl : (raw.take (40 : Int).toNat).length ≤ 40 := by rw [List.length_take]; exact Nat.min_le_left _ _
  have hrb : ByteL (raw.take (40 : Int).toNat) := fun x hx => hb' x (List.mem_of_mem_take hx)
  generalize raw.take (40 : Int).toNat = rs at hrl hrb hrc
  repeat (first | refine run ?_ | intro _ | ((with_reducible apply G.atDraw); first | refine G.draw (id := 19) plW8_8_19 mixed (by kernel_rfl) ?_))
  (first | ((with_reducible apply GO.atPlain); first | refine GO.ef (Ef.callAll (rwhole_spec rad rs.length rcap rs rfl hrb (by omega)) rfl) (by decide) ?_ | refine GO.ef (by exact Ef.callAll (rwhole_spec rad rs.length rcap rs rfl hrb (by omega)) rfl) (by decide) ?_) | ((with_reducible apply GPW.atEf); first | refine GPW.ef (Ef.callAll (rwhole_spec rad rs.length rcap rs rfl hrb (by omega)) rfl) (by decide) ?_ | refine GPW.ef (by exact Ef.callAll (rwhole_spec rad rs.length rcap rs rfl hrb (by omega)) rfl) (by decide) ?_))
  rintro _ _ ⟨xad, xcap, rfl, hxc, rfl⟩
  have hXb := wholeB_byte hrb
  have hXl : (wholeB rs).length ≤ 100000 := by
    have a4 := uv_len10 (n := rs.length) (by omega)
    have a5 := uv_len10 (parcelH_lt rs)
    simp only [wholeB, List.length_append]
    omega
  generalize wholeB rs = X at hXb hXl hxc
  repeat (first | refine run ?_ | intro _ | ((with_reducible apply G.atDraw); first | refine G.draw (id := 19) plW8_8_19 mixed (by kernel_rfl) ?_))
  rename_i ab
  obtain ⟨ms, hms⟩ : ∃ ms : List Msg, ms = [⟨w2ad, w2cap, W⟩, ⟨ead, ecap, B⟩, ⟨tad, tcap, T⟩, ⟨rad, rcap, rs⟩, ⟨xad, xcap, X⟩] := ⟨_, rfl⟩
  have hml : ms.length = 5 := by rw [hms]; rfl
  have hall : ∀ m ∈ ms, m.bs.length ≤ m.cap ∧ ByteL m.bs ∧ m.bs.length ≤ 1000000 := by
    intro m hm
    rw [hms] at hm
    simp only [List.mem_cons, List.not_mem_nil, or_false] at hm
    rcases hm with rfl | rfl | rfl | rfl | rfl
    · exact ⟨hw2, hWb, by simp only []; omega⟩
    · exact ⟨hec, hBb, by simp only []; omega⟩
    · exact ⟨by simp only []; omega, hTb, by simp only []; omega⟩
    · exact ⟨hrc, hrb, by simp only []; omega⟩
    · exact ⟨hxc, hXb, by simp only []; omega⟩
  refine G.ent (L' := [osl encM 1 31 (some ⟨ab, 0, none⟩) 5 ms, allP msgP ms]) ?_ ?_
  · refine (Ent.objSl (enc := encM) (sz := 1) (xs := ms) (n := 5) (by rw [hms]; simp [encM, hTl]) hml (fun x _ => rfl) (by decide)).trans (Ent.consR ?_)
    rw [hms]
    refine (Ent.frz w2ad).trans (Ent.trans (Ent.consR ?_) (Ent.allP_cons (x := ⟨w2ad, w2cap, W⟩) msgP_m))
    refine (Ent.frz ead).trans (Ent.trans (Ent.consR ?_) (Ent.allP_cons (x := ⟨ead, ecap, B⟩) msgP_m))
    refine (Ent.frz tad).trans (Ent.trans (Ent.consR ?_) (Ent.allP_cons (x := ⟨tad, tcap, T⟩) msgP_m))
    refine (Ent.frz rad).trans (Ent.trans (Ent.consR ?_) (Ent.allP_cons (x := ⟨rad, rcap, rs⟩) msgP_m))
    refine (Ent.frz xad).trans (Ent.trans (Ent.consR ?_) (Ent.allP_cons (x := ⟨xad, xcap, X⟩) msgP_m))
    exact (Ent.nil _).trans (Ent.allP_nil _)
  clear hms
  refine G.loop (α := Nat) (fun i => i ≤ 5) (fun i => [(18, .slice (some ⟨ab, 0, none⟩) 5 5), (19, .int .i64 (i : Int))]) (fun _ => [osl encM 1 31 (some ⟨ab, 0, none⟩) 5 ms, allP msgP ms]) (fun i => 5 - i) 0 (Nat.zero_le _) (by repeat (first | exact EnvSub.nil _ | refine EnvSub.cons rfl ?_)) (Ent.refl _) ?_
  intro i hi
  by_cases hlt : i < 5
  case neg =>
    repeat (first | refine run ?_ | intro _ | ((with_reducible apply G.atDraw); first | refine G.draw (id := 19) plW8_8_19 mixed (by kernel_rfl) ?_))
    (first | ((with_reducible apply GO.atPlain); first | refine GO.ef (Ef.call (lives_spec) rfl (by repeat (first | exact Ent.refl _ | refine Ent.take ?_))) (by decide) ?_ | refine GO.ef (by exact Ef.call (lives_spec) rfl (by repeat (first | exact Ent.refl _ | refine Ent.take ?_))) (by decide) ?_) | ((with_reducible apply GPW.atEf); first | refine GPW.ef (Ef.call (lives_spec) rfl (by repeat (first | exact Ent.refl _ | refine Ent.take ?_))) (by decide) ?_ | refine GPW.ef (by exact Ef.call (lives_spec) rfl (by repeat (first | exact Ent.refl _ | refine Ent.take ?_))) (by decide) ?_))
    rintro _ _ ⟨_, ⟨rfl, rfl⟩, hL⟩
    simp only [List.cons_append, List.nil_append] at hL; subst hL
    repeat (first | refine run ?_ | intro _ | ((with_reducible apply G.atDraw); first | refine G.draw (id := 19) plW8_8_19 mixed (by kernel_rfl) ?_))
    exact KX.ends (by first | exact ResOk.tmps rfl | (repeat (first | exact ResOk.nil | refine ResOk.tmp rfl ?_ | refine ResOk.cell rfl (by rfl) ?_ | refine ResOk.cell1 rfl ?_))) (Ent.nil _) ⟨rfl, trivial⟩
  have hmem : ms[i]! ∈ ms := by
    rw [List.getElem!_eq_getElem?_getD, List.getElem?_eq_getElem (show i < ms.length by omega)]
    exact List.getElem_mem _
  have h := hall _ hmem
  have hdl := decP_len (ms[i]!).bs
  refine G.ent (Ent.swap.trans (Ent.allP_get hmem)) ?_
  repeat (first | refine run ?_ | intro _ | ((with_reducible apply G.atDraw); first | refine G.draw (id := 19) plW8_8_19 mixed (by kernel_rfl) ?_))
  rw [Int.toNat_natCast]
  (first | ((with_reducible apply GO.atPlain); first | refine GO.ef (Ef.callAll (decode_spec (ms[i]!).ad (ms[i]!).bs.length (ms[i]!).cap (ms[i]!).bs rfl h.2.1 h.2.2) rfl) (by decide) ?_ | refine GO.ef (by exact Ef.callAll (decode_spec (ms[i]!).ad (ms[i]!).bs.length (ms[i]!).cap (ms[i]!).bs rfl h.2.1 h.2.2) rfl) (by decide) ?_) | ((with_reducible apply GPW.atEf); first | refine GPW.ef (Ef.callAll (decode_spec (ms[i]!).ad (ms[i]!).bs.length (ms[i]!).cap (ms[i]!).bs rfl h.2.1 h.2.2) rfl) (by decide) ?_ | refine GPW.ef (by exact Ef.callAll (decode_spec (ms[i]!).ad (ms[i]!).bs.length (ms[i]!).cap (ms[i]!).bs rfl h.2.1 h.2.2) rfl) (by decide) ?_))
  rintro _ _ ⟨mx, rfl, hmx, rfl⟩
  simp only [pkV]
  repeat (first | refine run ?_ | intro _ | ((with_reducible apply G.atDraw); first | refine G.draw (id := 19) plW8_8_19 mixed (by kernel_rfl) ?_))
  rw [Int.toNat_natCast]
  (first | ((with_reducible apply GO.atPlain); first | refine GO.ef (Ef.callAt (rdecode_spec (ms[i]!).ad (ms[i]!).bs.length (ms[i]!).cap (ms[i]!).bs rfl h.1 h.2.1 h.2.2) rfl) (by decide) ?_ | refine GO.ef (by exact Ef.callAt (rdecode_spec (ms[i]!).ad (ms[i]!).bs.length (ms[i]!).cap (ms[i]!).bs rfl h.1 h.2.1 h.2.2) rfl) (by decide) ?_) | ((with_reducible apply GPW.atEf); first | refine GPW.ef (Ef.callAt (rdecode_spec (ms[i]!).ad (ms[i]!).bs.length (ms[i]!).cap (ms[i]!).bs rfl h.1 h.2.1 h.2.2) rfl) (by decide) ?_ | refine GPW.ef (by exact Ef.callAt (rdecode_spec (ms[i]!).ad (ms[i]!).bs.length (ms[i]!).cap (ms[i]!).bs rfl h.1 h.2.1 h.2.2) rfl) (by decide) ?_))
  rintro _ _ ⟨my, rfl, hmy, rfl⟩
  generalize decP (ms[i]!).bs = D at hmx hmy hdl
  obtain ⟨⟨d1, d2, d3⟩, e⟩ := D
  simp only [pkV] at hmx hmy hdl ⊢
  repeat (first | refine run ?_ | intro _ | ((with_reducible apply G.atDraw); first | refine G.draw (id := 19) plW8_8_19 mixed (by kernel_rfl) ?_))
  (first | ((with_reducible apply GO.atPlain); first | refine GO.ef (Ef.call (plain_spec d1 d2 mx.ad mx.bs.length mx.cap) rfl (by repeat (first | exact Ent.refl _ | refine Ent.take ?_))) (by decide) ?_ | refine GO.ef (by exact Ef.call (plain_spec d1 d2 mx.ad mx.bs.length mx.cap) rfl (by repeat (first | exact Ent.refl _ | refine Ent.take ?_))) (by decide) ?_) | ((with_reducible apply GPW.atEf); first | refine GPW.ef (Ef.call (plain_spec d1 d2 mx.ad mx.bs.length mx.cap) rfl (by repeat (first | exact Ent.refl _ | refine Ent.take ?_))) (by decide) ?_ | refine GPW.ef (by exact Ef.call (plain_spec d1 d2 mx.ad mx.bs.length mx.cap) rfl (by repeat (first | exact Ent.refl _ | refine Ent.take ?_))) (by decide) ?_))
  rintro _ _ ⟨_, ⟨rfl, rfl⟩, hL⟩
  simp only [List.cons_append, List.nil_append] at hL; subst hL
  repeat (first | refine run ?_ | intro _ | ((with_reducible apply G.atDraw); first | refine G.draw (id := 19) plW8_8_19 mixed (by kernel_rfl) ?_))
  (first | ((with_reducible apply GO.atPlain); first | refine GO.ef (Ef.callAll (samePk_spec ⟨d1, d2, mx⟩ ⟨d1, d2, my⟩ (by simp only [Pkt.abs]; rw [hmx, hmy]) (by rw [hmx]; omega)) rfl) (by decide) ?_ | refine GO.ef (by exact Ef.callAll (samePk_spec ⟨d1, d2, mx⟩ ⟨d1, d2, my⟩ (by simp only [Pkt.abs]; rw [hmx, hmy]) (by rw [hmx]; omega)) rfl) (by decide) ?_) | ((with_reducible apply GPW.atEf); first | refine GPW.ef (Ef.callAll (samePk_spec ⟨d1, d2, mx⟩ ⟨d1, d2, my⟩ (by simp only [Pkt.abs]; rw [hmx, hmy]) (by rw [hmx]; omega)) rfl) (by decide) ?_ | refine GPW.ef (by exact Ef.callAll (samePk_spec ⟨d1, d2, mx⟩ ⟨d1, d2, my⟩ (by simp only [Pkt.abs]; rw [hmx, hmy]) (by rw [hmx]; omega)) rfl) (by decide) ?_))
  rintro _ _ ⟨rfl, rfl⟩
  repeat (first | refine run ?_ | intro _ | ((with_reducible apply G.atDraw); first | refine G.draw (id := 19) plW8_8_19 mixed (by kernel_rfl) ?_))
  refine ⟨i + 1, by omega, by omega, ?_, by repeat (first | exact Ent.refl _ | exact Ent.nil _ | refine Ent.take' ?_ | refine Ent.trans Ent.drop ?_)⟩
  rw [show (((i + 1 : Nat)) : Int) = (i : Int) + 1 by omega]
  exact (by repeat (first | exact EnvSub.nil _ | refine EnvSub.cons rfl ?_))
end Go.Proofs.Ytnpienjfapjjoaa
