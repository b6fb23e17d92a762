/- The law MoveLives: after Split and Join each account lives where it should. -/
import Derived.Test.YtclgjkeeaopppaaGreatDoorN2
namespace Go.Proofs.YtclgjkeeaopppaaGreatDoor
open Go.V
attribute [local irreducible] G GO GP GPW GPK Ev Ef EfR Ent CB GB Enters

theorem split_again {n f t s : Int} {l : List Hm} (h : HOk n l) (hs : 0 ≤ s ∧ s < n) (h1 : f ≤ t) (hf : 1 ≤ f) : splitH (splitH l f t s) f t s = splitH l f t s := by
  obtain ⟨a1, a2⟩ := splitH_ok h hs h1 hf
  obtain ⟨b1, b2⟩ := splitH_ok a1 hs h1 hf
  refine b1.unique a1 fun a ha hm => ?_
  rw [b2 a ha hm]
  split
  · rename_i hc; rw [a2 a ha hm, if_pos hc]
  · rfl
theorem split_join {n m f t old x : Int} {l : List Hm} (h : HOk n l) (hn : n ≤ m) (hm : m ≤ 12) (hx : n ≤ x ∧ x < m) (ho : 0 ≤ old ∧ old < n) (h1 : f ≤ t) (hf : 1 ≤ f) : joinH (splitH l f t x) x old = splitH l f t old := by
  have h0 := h.n1
  obtain ⟨a1, a2⟩ := splitH_ok (h.mono hn hm) (s := x) ⟨by omega, by omega⟩ h1 hf
  obtain ⟨b1, b2⟩ := joinH_ok (sh := x) (into := old) a1 ⟨ho.1, by omega⟩
  obtain ⟨c1, c2⟩ := splitH_ok h ho h1 hf
  refine b1.unique c1 fun a ha hm => ?_
  rw [b2 a ha, a2 a ha hm, c2 a ha hm, ren]
  have := h.fnd_bd a
  by_cases hc : f ≤ a ∧ a ≤ t
  · simp [hc]
  · rw [if_neg hc, if_neg hc, if_neg (by omega)]

set_option maxHeartbeats 2000000 in
theorem moveLives_spec {L : List HP} [hk : KR L] (ad : Option Addr) (len cap : Nat) (xs : List Int) [Rds L ad Int (encI .i64) 1 xs] (hlen : len = xs.length) (hmx0 : len ≤ 9223372036854775807) (hxb : ∀ x ∈ xs, I64 x) (fr : Int) (hfr : I64 fr) (to : Int) (hto : I64 to) (sh : Int) (hsh : I64 sh) (int : Int) (hint : I64 int) (acc : Int) (hacc : I64 acc) :
    Tri Tryz.prog 5 #[.slice ad len cap, .int .i64 fr, .int .i64 to, .int .i64 sh, .int .i64 int, .int .i64 acc] L (fun v L' => v = .bool true ∧ L' = L) := by
  have hmx : maxAcc = 1073741824 := rfl
  have hf20 := around_bd fr (k := 20) (by decide)
  have ht20 := around_bd to (k := 20) (by decide)
  have hs5 := around_bd sh (k := 5) (by decide)
  have hi5 := around_bd int (k := 5) (by decide)
  have ha1k := around_bd acc (k := 1000) (by decide)
  refine Tri.body (args := [.slice ad len cap, .int .i64 fr, .int .i64 to, .int .i64 sh, .int .i64 int, .int .i64 acc]) 217 en5 Tryz.func5 rfl rfl rfl (by simp) ?_
  repeat (first | refine runB ?_ | intro _)
  (first | ((with_reducible apply GO.atPlain); first | refine GO.ef (Ef.callAll (rhomes_spec 4 0 ad len cap xs hlen (by omega) hxb (by omega) (by omega) (by decide)) rfl) (by decide) ?_ | refine GO.ef (by exact Ef.callAll (rhomes_spec 4 0 ad len cap xs hlen (by omega) hxb (by omega) (by omega) (by decide)) rfl) (by decide) ?_) | ((with_reducible apply GPW.atEf); first | refine GPW.ef (Ef.callAll (rhomes_spec 4 0 ad len cap xs hlen (by omega) hxb (by omega) (by omega) (by decide)) rfl) (by decide) ?_ | refine GPW.ef (by exact Ef.callAll (rhomes_spec 4 0 ad len cap xs hlen (by omega) hxb (by omega) (by omega) (by decide)) rfl) (by decide) ?_))
  rintro _ _ ⟨ad1, cap1, l, rfl, ⟨hok, hl⟩, rfl⟩
  repeat (first | refine runB ?_ | intro _)
  (first | ((with_reducible apply GO.atPlain); first | refine GO.ef (Ef.callAll (homes_spec ad1 l.length cap1 l rfl (by omega)) rfl) (by decide) ?_ | refine GO.ef (by exact Ef.callAll (homes_spec ad1 l.length cap1 l rfl (by omega)) rfl) (by decide) ?_) | ((with_reducible apply GPW.atEf); first | refine GPW.ef (Ef.callAll (homes_spec ad1 l.length cap1 l rfl (by omega)) rfl) (by decide) ?_ | refine GPW.ef (by exact Ef.callAll (homes_spec ad1 l.length cap1 l rfl (by omega)) rfl) (by decide) ?_))
  rintro _ _ ⟨adx, capx, rfl, rfl⟩
  repeat (first | refine runB ?_ | intro _)
  (first | ((with_reducible apply GO.atPlain); first | refine GO.ef (Ef.callAll (around_spec fr 20 hfr (by decide) (by decide)) rfl) (by decide) ?_ | refine GO.ef (by exact Ef.callAll (around_spec fr 20 hfr (by decide) (by decide)) rfl) (by decide) ?_) | ((with_reducible apply GPW.atEf); first | refine GPW.ef (Ef.callAll (around_spec fr 20 hfr (by decide) (by decide)) rfl) (by decide) ?_ | refine GPW.ef (by exact Ef.callAll (around_spec fr 20 hfr (by decide) (by decide)) rfl) (by decide) ?_))
  rintro _ _ ⟨rfl, rfl⟩
  repeat (first | refine runB ?_ | intro _)
  (first | ((with_reducible apply GO.atPlain); first | refine GO.ef (Ef.callAll (around_spec to 20 hto (by decide) (by decide)) rfl) (by decide) ?_ | refine GO.ef (by exact Ef.callAll (around_spec to 20 hto (by decide) (by decide)) rfl) (by decide) ?_) | ((with_reducible apply GPW.atEf); first | refine GPW.ef (Ef.callAll (around_spec to 20 hto (by decide) (by decide)) rfl) (by decide) ?_ | refine GPW.ef (by exact Ef.callAll (around_spec to 20 hto (by decide) (by decide)) rfl) (by decide) ?_))
  rintro _ _ ⟨rfl, rfl⟩
  repeat (first | refine runB ?_ | intro _)
  (first | ((with_reducible apply GO.atPlain); first | refine GO.ef (Ef.callAll (around_spec sh 5 hsh (by decide) (by decide)) rfl) (by decide) ?_ | refine GO.ef (by exact Ef.callAll (around_spec sh 5 hsh (by decide) (by decide)) rfl) (by decide) ?_) | ((with_reducible apply GPW.atEf); first | refine GPW.ef (Ef.callAll (around_spec sh 5 hsh (by decide) (by decide)) rfl) (by decide) ?_ | refine GPW.ef (by exact Ef.callAll (around_spec sh 5 hsh (by decide) (by decide)) rfl) (by decide) ?_))
  rintro _ _ ⟨rfl, rfl⟩
  repeat (first | refine runB ?_ | intro _)
  (first | ((with_reducible apply GO.atPlain); first | refine GO.ef (Ef.callAll (around_spec int 5 hint (by decide) (by decide)) rfl) (by decide) ?_ | refine GO.ef (by exact Ef.callAll (around_spec int 5 hint (by decide) (by decide)) rfl) (by decide) ?_) | ((with_reducible apply GPW.atEf); first | refine GPW.ef (Ef.callAll (around_spec int 5 hint (by decide) (by decide)) rfl) (by decide) ?_ | refine GPW.ef (by exact Ef.callAll (around_spec int 5 hint (by decide) (by decide)) rfl) (by decide) ?_))
  rintro _ _ ⟨rfl, rfl⟩
  generalize hse : around sh 5 = s at hs5
  generalize hie : around int 5 = i at hi5
  generalize hte : 1 + around fr 20 + around to 20 = t
  generalize hfe : 1 + around fr 20 = f at hte
  obtain ⟨hf1, hf2, ht1, ht2⟩ : 1 ≤ f ∧ f ≤ 20 ∧ f ≤ t ∧ t ≤ 40 := by omega
  clear hse hie hte hfe
  have hok12 : HOk 12 l := hok.mono (by decide) (by decide)
  have hok5 : HOk 5 l := hok.mono (by decide) (by decide)
  repeat (first | refine runB ?_ | intro _)
  (first | ((with_reducible apply GO.atPlain); first | refine GO.ef (Ef.callAll (split_spec f t s adx l.length capx l rfl (by omega)) rfl) (by decide) ?_ | refine GO.ef (by exact Ef.callAll (split_spec f t s adx l.length capx l rfl (by omega)) rfl) (by decide) ?_) | ((with_reducible apply GPW.atEf); first | refine GPW.ef (Ef.callAll (split_spec f t s adx l.length capx l rfl (by omega)) rfl) (by decide) ?_ | refine GPW.ef (by exact Ef.callAll (split_spec f t s adx l.length capx l rfl (by omega)) rfl) (by decide) ?_))
  rintro _ _ ⟨ada, capa, rfl, rfl⟩
  rw [show splitRes l f t s = (splitH l f t s, 0) from if_pos ⟨hok12, by omega, by omega, by omega, by omega⟩]
  dsimp only
  obtain ⟨hoka, hfa⟩ := splitH_ok hok5 hs5 ht1 hf1
  have hag := split_again hok5 hs5 ht1 hf1
  have hla := splitH_len l f t s
  generalize splitH l f t s = a at hoka hfa hag hla
  repeat (first | refine runB ?_ | intro _)
  (first | ((with_reducible apply GO.atPlain); first | refine GO.ef (Ef.callAll (join_spec s i adx l.length capx l rfl (by omega)) rfl) (by decide) ?_ | refine GO.ef (by exact Ef.callAll (join_spec s i adx l.length capx l rfl (by omega)) rfl) (by decide) ?_) | ((with_reducible apply GPW.atEf); first | refine GPW.ef (Ef.callAll (join_spec s i adx l.length capx l rfl (by omega)) rfl) (by decide) ?_ | refine GPW.ef (by exact Ef.callAll (join_spec s i adx l.length capx l rfl (by omega)) rfl) (by decide) ?_))
  rintro _ _ ⟨adb, capb, rfl, rfl⟩
  rw [show joinRes l s i = (joinH l s i, 0) from if_pos ⟨hok12, by omega, by omega, by omega⟩]
  dsimp only
  obtain ⟨hokb, hfb⟩ := joinH_ok (sh := s) hok5 hi5
  have hlb := joinH_len l s i
  generalize joinH l s i = b at hokb hfb hlb
  repeat (first | refine runB ?_ | intro _)
  have hoka12 : HOk 12 a := hoka.mono (by decide) (by decide)
  have hokb12 : HOk 12 b := hokb.mono (by decide) (by decide)
  (first | ((with_reducible apply GO.atPlain); first | refine GO.ef (Ef.callAll (split_spec f t s ada a.length capa a rfl (by omega)) rfl) (by decide) ?_ | refine GO.ef (by exact Ef.callAll (split_spec f t s ada a.length capa a rfl (by omega)) rfl) (by decide) ?_) | ((with_reducible apply GPW.atEf); first | refine GPW.ef (Ef.callAll (split_spec f t s ada a.length capa a rfl (by omega)) rfl) (by decide) ?_ | refine GPW.ef (by exact Ef.callAll (split_spec f t s ada a.length capa a rfl (by omega)) rfl) (by decide) ?_))
  rintro _ _ ⟨adc, capc, rfl, rfl⟩
  rw [show splitRes a f t s = (a, 0) from (if_pos ⟨hoka12, by omega, by omega, by omega, by omega⟩).trans (by rw [hag])]
  dsimp only
  repeat (first | refine runB ?_ | intro _)
  (first | ((with_reducible apply GO.atPlain); first | refine GO.ef (Ef.callAll (split_spec f t 7 adx l.length capx l rfl (by omega)) rfl) (by decide) ?_ | refine GO.ef (by exact Ef.callAll (split_spec f t 7 adx l.length capx l rfl (by omega)) rfl) (by decide) ?_) | ((with_reducible apply GPW.atEf); first | refine GPW.ef (Ef.callAll (split_spec f t 7 adx l.length capx l rfl (by omega)) rfl) (by decide) ?_ | refine GPW.ef (by exact Ef.callAll (split_spec f t 7 adx l.length capx l rfl (by omega)) rfl) (by decide) ?_))
  rintro _ _ ⟨add, capd, rfl, rfl⟩
  rw [show splitRes l f t 7 = (splitH l f t 7, 0) from if_pos ⟨hok12, by omega, by omega, by omega, by omega⟩]
  dsimp only
  obtain ⟨hokd, _⟩ := splitH_ok hok12 (s := 7) (by decide) ht1 hf1
  have hld := splitH_len l f t 7
  have hsj : ∀ old, 0 ≤ old ∧ old < 4 → joinH (splitH l f t 7) 7 old = splitH l f t old := fun old ho => split_join (m := 12) hok (by decide) (by decide) (by decide) ho ht1 hf1
  generalize splitH l f t 7 = d at hokd hld hsj
  repeat (first | refine runB ?_ | intro _)
  (first | ((with_reducible apply GO.atPlain); first | refine GO.ef (Ef.callAll (equal_spec ada a.length capa a adc a.length capc a rfl rfl (by omega)) rfl) (by decide) ?_ | refine GO.ef (by exact Ef.callAll (equal_spec ada a.length capa a adc a.length capc a rfl rfl (by omega)) rfl) (by decide) ?_) | ((with_reducible apply GPW.atEf); first | refine GPW.ef (Ef.callAll (equal_spec ada a.length capa a adc a.length capc a rfl rfl (by omega)) rfl) (by decide) ?_ | refine GPW.ef (by exact Ef.callAll (equal_spec ada a.length capa a adc a.length capc a rfl rfl (by omega)) rfl) (by decide) ?_))
  rintro _ _ ⟨rfl, rfl⟩
  rw [dB_pos rfl]
  repeat (first | refine runB ?_ | intro _)
  (first | ((with_reducible apply GO.atPlain); first | refine GO.ef (Ef.callAll (mvalid_spec 5 ada a.length capa a rfl (by omega)) rfl) (by decide) ?_ | refine GO.ef (by exact Ef.callAll (mvalid_spec 5 ada a.length capa a rfl (by omega)) rfl) (by decide) ?_) | ((with_reducible apply GPW.atEf); first | refine GPW.ef (Ef.callAll (mvalid_spec 5 ada a.length capa a rfl (by omega)) rfl) (by decide) ?_ | refine GPW.ef (by exact Ef.callAll (mvalid_spec 5 ada a.length capa a rfl (by omega)) rfl) (by decide) ?_))
  rintro _ _ ⟨rfl, rfl⟩
  rw [(errV_iff 5 a).2 hoka]
  repeat (first | refine runB ?_ | intro _)
  (first | ((with_reducible apply GO.atPlain); first | refine GO.ef (Ef.callAll (mvalid_spec 5 adb b.length capb b rfl (by omega)) rfl) (by decide) ?_ | refine GO.ef (by exact Ef.callAll (mvalid_spec 5 adb b.length capb b rfl (by omega)) rfl) (by decide) ?_) | ((with_reducible apply GPW.atEf); first | refine GPW.ef (Ef.callAll (mvalid_spec 5 adb b.length capb b rfl (by omega)) rfl) (by decide) ?_ | refine GPW.ef (by exact Ef.callAll (mvalid_spec 5 adb b.length capb b rfl (by omega)) rfl) (by decide) ?_))
  rintro _ _ ⟨rfl, rfl⟩
  rw [(errV_iff 5 b).2 hokb]
  repeat (first | refine runB ?_ | intro _)
  refine G.loop (α := Nat) (fun n => 1 ≤ n ∧ n ≤ 45) (fun n => [(5, .int .i64 acc), (13, .slice adx l.length capx), (14, .int .i64 f), (15, .int .i64 t), (16, .int .i64 s), (17, .int .i64 i), (18, .slice ada a.length capa), (20, .slice adb b.length capb), (24, .slice add d.length capd), (26, .int .i64 (n : Int))])
    (fun _ => osl encH 2 tMH add capd d :: osl encH 2 tMH adb capb b :: osl encH 2 tMH ada capa a :: osl encH 2 tMH adx capx l :: L) (fun n => 45 - n) 1 (by decide) (by repeat (first | exact EnvSub.nil _ | refine EnvSub.cons rfl ?_)) (by repeat (first | exact Ent.refl _ | exact Ent.nil _ | refine Ent.take' ?_ | refine Ent.trans Ent.drop ?_)) ?_
  rintro n ⟨hn1, hn2⟩
  by_cases hlt : n < 45
  case neg =>
    have hfo := hok.fnd_bd f
    repeat (first | refine runB ?_ | intro _)
    (first | ((with_reducible apply GO.atPlain); first | refine GO.ef (Ef.callAll (mFind_spec f adx l.length capx l rfl (by omega)) rfl) (by decide) ?_ | refine GO.ef (by exact Ef.callAll (mFind_spec f adx l.length capx l rfl (by omega)) rfl) (by decide) ?_) | ((with_reducible apply GPW.atEf); first | refine GPW.ef (Ef.callAll (mFind_spec f adx l.length capx l rfl (by omega)) rfl) (by decide) ?_ | refine GPW.ef (by exact Ef.callAll (mFind_spec f adx l.length capx l rfl (by omega)) rfl) (by decide) ?_))
    rintro _ _ ⟨rfl, rfl⟩
    rw [if_pos ⟨hok12, by omega, by omega⟩]
    repeat (first | refine runB ?_ | intro _)
    generalize fndH l f = old at hfo
    (first | ((with_reducible apply GO.atPlain); first | refine GO.ef (Ef.callAll (join_spec 7 old add d.length capd d rfl (by omega)) rfl) (by decide) ?_ | refine GO.ef (by exact Ef.callAll (join_spec 7 old add d.length capd d rfl (by omega)) rfl) (by decide) ?_) | ((with_reducible apply GPW.atEf); first | refine GPW.ef (Ef.callAll (join_spec 7 old add d.length capd d rfl (by omega)) rfl) (by decide) ?_ | refine GPW.ef (by exact Ef.callAll (join_spec 7 old add d.length capd d rfl (by omega)) rfl) (by decide) ?_))
    rintro _ _ ⟨adv, capv, rfl, rfl⟩
    rw [show joinRes d 7 old = (splitH l f t old, 0) from (if_pos ⟨hokd, by omega, by omega, by omega⟩).trans (by rw [hsj old hfo])]
    dsimp only
    repeat (first | refine runB ?_ | intro _)
    (first | ((with_reducible apply GO.atPlain); first | refine GO.ef (Ef.callAll (split_spec f t old adx l.length capx l rfl (by omega)) rfl) (by decide) ?_ | refine GO.ef (by exact Ef.callAll (split_spec f t old adx l.length capx l rfl (by omega)) rfl) (by decide) ?_) | ((with_reducible apply GPW.atEf); first | refine GPW.ef (Ef.callAll (split_spec f t old adx l.length capx l rfl (by omega)) rfl) (by decide) ?_ | refine GPW.ef (by exact Ef.callAll (split_spec f t old adx l.length capx l rfl (by omega)) rfl) (by decide) ?_))
    rintro _ _ ⟨ady, capy, rfl, rfl⟩
    rw [show splitRes l f t old = (splitH l f t old, 0) from if_pos ⟨hok12, by omega, by omega, by omega, by omega⟩]
    dsimp only
    have hly := splitH_len l f t old
    repeat (first | refine runB ?_ | intro _)
    (first | ((with_reducible apply GO.atPlain); first | refine GO.ef (Ef.callAll (equal_spec adv (splitH l f t old).length capv (splitH l f t old) ady (splitH l f t old).length capy (splitH l f t old) rfl rfl (by omega)) rfl) (by decide) ?_ | refine GO.ef (by exact Ef.callAll (equal_spec adv (splitH l f t old).length capv (splitH l f t old) ady (splitH l f t old).length capy (splitH l f t old) rfl rfl (by omega)) rfl) (by decide) ?_) | ((with_reducible apply GPW.atEf); first | refine GPW.ef (Ef.callAll (equal_spec adv (splitH l f t old).length capv (splitH l f t old) ady (splitH l f t old).length capy (splitH l f t old) rfl rfl (by omega)) rfl) (by decide) ?_ | refine GPW.ef (by exact Ef.callAll (equal_spec adv (splitH l f t old).length capv (splitH l f t old) ady (splitH l f t old).length capy (splitH l f t old) rfl rfl (by omega)) rfl) (by decide) ?_))
    rintro _ _ ⟨rfl, rfl⟩
    rw [dB_pos rfl]
    repeat (first | refine runB ?_ | intro _)
    (first | ((with_reducible apply GO.atPlain); first | refine GO.ef (Ef.callAll (lives_spec) rfl) (by decide) ?_ | refine GO.ef (by exact Ef.callAll (lives_spec) rfl) (by decide) ?_) | ((with_reducible apply GPW.atEf); first | refine GPW.ef (Ef.callAll (lives_spec) rfl) (by decide) ?_ | refine GPW.ef (by exact Ef.callAll (lives_spec) rfl) (by decide) ?_))
    rintro _ _ ⟨rfl, rfl⟩
    repeat (first | refine runB ?_ | intro _)
    exact KX.ends (by first | exact ResOk.tmps rfl | (repeat (first | exact ResOk.nil | apply ResOk.tmp rfl | apply ResOk.cell rfl (by rfl) | apply ResOk.cell1 rfl))) (by repeat (first | exact Ent.refl _ | exact Ent.nil _ | refine Ent.take' ?_ | refine Ent.trans Ent.drop ?_)) ⟨rfl, rfl⟩
  repeat (first | ((fail_if_success (with_reducible refine G.atSS 16 ?_)); (with_reducible apply G.seq)) | refine runBS ?_ | intro _)
  refine G.join (α := Int) (fun k => 1 ≤ k ∧ k ≤ 2000) (fun k => [(5, .int .i64 acc), (13, .slice adx l.length capx), (14, .int .i64 f), (15, .int .i64 t), (16, .int .i64 s), (17, .int .i64 i), (18, .slice ada a.length capa), (20, .slice adb b.length capb), (24, .slice add d.length capd), (26, .int .i64 (n : Int)), (27, .int .i64 k)])
    (fun _ => osl encH 2 tMH add capd d :: osl encH 2 tMH adb capb b :: osl encH 2 tMH ada capa a :: osl encH 2 tMH adx capx l :: L) ?_ ?_
  · by_cases h44 : n = 44
    · repeat (first | refine runB ?_ | intro _)
      (first | ((with_reducible apply GO.atPlain); first | refine GO.ef (Ef.callAll (around_spec acc 1000 hacc (by decide) (by decide)) rfl) (by decide) ?_ | refine GO.ef (by exact Ef.callAll (around_spec acc 1000 hacc (by decide) (by decide)) rfl) (by decide) ?_) | ((with_reducible apply GPW.atEf); first | refine GPW.ef (Ef.callAll (around_spec acc 1000 hacc (by decide) (by decide)) rfl) (by decide) ?_ | refine GPW.ef (by exact Ef.callAll (around_spec acc 1000 hacc (by decide) (by decide)) rfl) (by decide) ?_))
      rintro _ _ ⟨rfl, rfl⟩
      repeat (first | refine runB ?_ | intro _)
      exact ⟨45 + around acc 1000, by omega, (by repeat (first | exact EnvSub.nil _ | refine EnvSub.cons rfl ?_)), Ent.refl _⟩
    · repeat (first | refine runB ?_ | intro _)
      exact ⟨(n : Int), by omega, (by repeat (first | exact EnvSub.nil _ | refine EnvSub.cons rfl ?_)), Ent.refl _⟩
  rintro k ⟨hk1, hk2⟩
  repeat (first | refine runB ?_ | intro _)
  (first | ((with_reducible apply GO.atPlain); first | refine GO.ef (Ef.callAll (mFind_spec k adx l.length capx l rfl (by omega)) rfl) (by decide) ?_ | refine GO.ef (by exact Ef.callAll (mFind_spec k adx l.length capx l rfl (by omega)) rfl) (by decide) ?_) | ((with_reducible apply GPW.atEf); first | refine GPW.ef (Ef.callAll (mFind_spec k adx l.length capx l rfl (by omega)) rfl) (by decide) ?_ | refine GPW.ef (by exact Ef.callAll (mFind_spec k adx l.length capx l rfl (by omega)) rfl) (by decide) ?_))
  rintro _ _ ⟨rfl, rfl⟩
  rw [if_pos ⟨hok12, by omega, by omega⟩]
  repeat (first | refine runB ?_ | intro _)
  (first | ((with_reducible apply GO.atPlain); first | refine GO.ef (Ef.callAll (mFind_spec k ada a.length capa a rfl (by omega)) rfl) (by decide) ?_ | refine GO.ef (by exact Ef.callAll (mFind_spec k ada a.length capa a rfl (by omega)) rfl) (by decide) ?_) | ((with_reducible apply GPW.atEf); first | refine GPW.ef (Ef.callAll (mFind_spec k ada a.length capa a rfl (by omega)) rfl) (by decide) ?_ | refine GPW.ef (by exact Ef.callAll (mFind_spec k ada a.length capa a rfl (by omega)) rfl) (by decide) ?_))
  rintro _ _ ⟨rfl, rfl⟩
  rw [if_pos ⟨hoka12, by omega, by omega⟩]
  repeat (first | refine runB ?_ | intro _)
  (first | ((with_reducible apply GO.atPlain); first | refine GO.ef (Ef.callAll (mFind_spec k adb b.length capb b rfl (by omega)) rfl) (by decide) ?_ | refine GO.ef (by exact Ef.callAll (mFind_spec k adb b.length capb b rfl (by omega)) rfl) (by decide) ?_) | ((with_reducible apply GPW.atEf); first | refine GPW.ef (Ef.callAll (mFind_spec k adb b.length capb b rfl (by omega)) rfl) (by decide) ?_ | refine GPW.ef (by exact Ef.callAll (mFind_spec k adb b.length capb b rfl (by omega)) rfl) (by decide) ?_))
  rintro _ _ ⟨rfl, rfl⟩
  rw [if_pos ⟨hokb12, by omega, by omega⟩]
  have ea := hfa k hk1 (by omega)
  have eb := hfb k hk1
  unfold ren at eb
  rw [ea, eb]
  generalize fndH l k = old
  by_cases h1 : f ≤ k
  · by_cases h2 : k ≤ t
    · rw [if_pos (show f ≤ k ∧ k ≤ t from ⟨h1, h2⟩)]
      by_cases h3 : old = s
      · rw [if_pos h3]
        repeat (first | refine runB ?_ | intro _)
        refine ⟨n + 1, by omega, by omega, ?_, Ent.refl _⟩
        rw [show ((n + 1 : Nat) : Int) = (n : Int) + 1 by omega]
        exact (by repeat (first | exact EnvSub.nil _ | refine EnvSub.cons rfl ?_))
      · rw [if_neg h3]
        repeat (first | refine runB ?_ | intro _)
        refine ⟨n + 1, by omega, by omega, ?_, Ent.refl _⟩
        rw [show ((n + 1 : Nat) : Int) = (n : Int) + 1 by omega]
        exact (by repeat (first | exact EnvSub.nil _ | refine EnvSub.cons rfl ?_))
    · rw [if_neg (show ¬ (f ≤ k ∧ k ≤ t) from fun e => h2 e.2)]
      by_cases h3 : old = s
      · rw [if_pos h3]
        repeat (first | refine runB ?_ | intro _)
        refine ⟨n + 1, by omega, by omega, ?_, Ent.refl _⟩
        rw [show ((n + 1 : Nat) : Int) = (n : Int) + 1 by omega]
        exact (by repeat (first | exact EnvSub.nil _ | refine EnvSub.cons rfl ?_))
      · rw [if_neg h3]
        repeat (first | refine runB ?_ | intro _)
        refine ⟨n + 1, by omega, by omega, ?_, Ent.refl _⟩
        rw [show ((n + 1 : Nat) : Int) = (n : Int) + 1 by omega]
        exact (by repeat (first | exact EnvSub.nil _ | refine EnvSub.cons rfl ?_))
  · rw [if_neg (show ¬ (f ≤ k ∧ k ≤ t) from fun e => h1 e.1)]
    by_cases h3 : old = s
    · rw [if_pos h3]
      repeat (first | refine runB ?_ | intro _)
      refine ⟨n + 1, by omega, by omega, ?_, Ent.refl _⟩
      rw [show ((n + 1 : Nat) : Int) = (n : Int) + 1 by omega]
      exact (by repeat (first | exact EnvSub.nil _ | refine EnvSub.cons rfl ?_))
    · rw [if_neg h3]
      repeat (first | refine runB ?_ | intro _)
      refine ⟨n + 1, by omega, by omega, ?_, Ent.refl _⟩
      rw [show ((n + 1 : Nat) : Int) = (n : Int) + 1 by omega]
      exact (by repeat (first | exact EnvSub.nil _ | refine EnvSub.cons rfl ?_))
end Go.Proofs.YtclgjkeeaopppaaGreatDoor
