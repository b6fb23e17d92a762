/- The example of the section. -/
import Derived.Test.YtnpienjfapjjoaaC4
namespace Go.Proofs.Ytnpienjfapjjoaa
open Go.V
theorem ex1 : (EndS.new 2).inn 2 0 [98] = (⟨2, 0, [], 0, [(2, [98])], true⟩, []) := rfl
theorem ex2 : (⟨2, 0, [], 0, [(2, [98])], true⟩ : EndS).inn 1 0 [97] = (⟨2, 0, [], 2, [], true⟩, [[97], [98]]) := rfl
theorem ex3 : (⟨2, 3, [[97], [98], [99]], 0, [], false⟩ : EndS).inn 0 2 [] = (⟨2, 3, [[99]], 0, [], false⟩, []) := rfl
theorem ex4 : ((((EndS.new 2).send [97]).send [98]).send [99]) = ⟨2, 3, [[97], [98], [99]], 0, [], false⟩ := rfl
attribute [local irreducible] G GO GP GPW GPK Ev Ef Ent CB GB validB

theorem len_of {α β : Type} {f : α → β} {l : List α} {m : List β} (h : l.map f = m) : l.length = m.length := by rw [← h, List.length_map]
theorem abs_two {ps : List Pkt} {s k s' k' : Int} {b b' : Bytes} (h : ps.map Pkt.abs = [(s, k, b), (s', k', b')]) : ∃ ad cap ad' cap', ps = [⟨s, k, ⟨ad, cap, b⟩⟩, ⟨s', k', ⟨ad', cap', b'⟩⟩] := by
  match ps, h with
  | [⟨_, _, ⟨_, _, _⟩⟩, ⟨_, _, ⟨_, _, _⟩⟩], h =>
    simp [Pkt.abs] at h
    obtain ⟨⟨rfl, rfl, rfl⟩, rfl, rfl, rfl⟩ := h
    exact ⟨_, _, _, _, rfl⟩
theorem abs_one {ps : List Pkt} {s k : Int} {b : Bytes} (h : ps.map Pkt.abs = [(s, k, b)]) : ∃ ad cap, ps = [⟨s, k, ⟨ad, cap, b⟩⟩] := by
  match ps, h with
  | [⟨_, _, ⟨_, _, _⟩⟩], h =>
    simp [Pkt.abs] at h
    obtain ⟨rfl, rfl, rfl⟩ := h
    exact ⟨_, _, rfl⟩
theorem bs_one {ms : List Msg} {b : Bytes} (h : ms.map (·.bs) = [b]) : ∃ ad cap, ms = [⟨ad, cap, b⟩] := by
  match ms, h with
  | [⟨_, _, _⟩], h =>
    simp at h
    subst h
    exact ⟨_, _, rfl⟩
theorem bs_nil {ms : List Msg} (h : ms.map (·.bs) = []) : ms = [] := by simpa using h
theorem bs_two {ms : List Msg} {b b' : Bytes} (h : ms.map (·.bs) = [b, b']) : ∃ ad cap ad' cap', ms = [⟨ad, cap, b⟩, ⟨ad', cap', b'⟩] := by
  match ms, h with
  | [⟨_, _, _⟩, ⟨_, _, _⟩], h =>
    simp at h
    obtain ⟨rfl, rfl⟩ := h
    exact ⟨_, _, _, _, rfl⟩

theorem lives_spec : Tri Try.prog 23 #[] [] (fun v L => v = .bool true ∧ L = []) := by
  refine Tri.body (args := []) 138 en23 Try.func23 rfl rfl rfl (by simp) ?_
  repeat (first | refine run ?_ | intro _)
  (first | ((with_reducible apply GO.atPlain); first | refine GO.ef (Ef.call (new_spec 2 (by decide) (by decide)) rfl (by repeat (first | exact Ent.refl _ | refine Ent.take ?_))) (by decide) ?_ | refine GO.ef (by exact Ef.call (new_spec 2 (by decide) (by decide)) rfl (by repeat (first | exact Ent.refl _ | refine Ent.take ?_))) (by decide) ?_) | ((with_reducible apply GPW.atEf); first | refine GPW.ef (Ef.call (new_spec 2 (by decide) (by decide)) rfl (by repeat (first | exact Ent.refl _ | refine Ent.take ?_))) (by decide) ?_ | refine GPW.ef (by exact Ef.call (new_spec 2 (by decide) (by decide)) rfl (by repeat (first | exact Ent.refl _ | refine Ent.take ?_))) (by decide) ?_))
  rintro _ _ ⟨_, ⟨a, rfl, rfl⟩, hL⟩
  simp only [List.cons_append, List.nil_append] at hL; subst hL
  repeat (first | refine run ?_ | intro _)
  (first | ((with_reducible apply GO.atPlain); first | refine GO.ef (Ef.call (new_spec 2 (by decide) (by decide)) rfl (by repeat (first | exact Ent.refl _ | refine Ent.take ?_))) (by decide) ?_ | refine GO.ef (by exact Ef.call (new_spec 2 (by decide) (by decide)) rfl (by repeat (first | exact Ent.refl _ | refine Ent.take ?_))) (by decide) ?_) | ((with_reducible apply GPW.atEf); first | refine GPW.ef (Ef.call (new_spec 2 (by decide) (by decide)) rfl (by repeat (first | exact Ent.refl _ | refine Ent.take ?_))) (by decide) ?_ | refine GPW.ef (by exact Ef.call (new_spec 2 (by decide) (by decide)) rfl (by repeat (first | exact Ent.refl _ | refine Ent.take ?_))) (by decide) ?_))
  rintro _ _ ⟨_, ⟨b, rfl, rfl⟩, hL⟩
  simp only [List.cons_append, List.nil_append] at hL; subst hL
  have ok0 := EndS.new_ok 2 (by decide) (by decide)
  have ok1 := ok0.send (by decide) (by decide) [97]
  have ok2 := ok1.send (by decide) (by decide) [98]
  have ok3 := ok2.send (by decide) (by decide) [99]
  repeat (first | refine run ?_ | intro _)
  (first | ((with_reducible apply GO.atPlain); first | refine GO.ef (Ef.convBytes [97] rfl rfl) (by decide) ?_ | refine GO.ef (by exact Ef.convBytes [97] rfl rfl) (by decide) ?_) | ((with_reducible apply GPW.atEf); first | refine GPW.ef (Ef.convBytes [97] rfl rfl) (by decide) ?_ | refine GPW.ef (by exact Ef.convBytes [97] rfl rfl) (by decide) ?_) | ((with_reducible apply GO.atUnit); first | refine GO.efu (Ef.convBytes [97] rfl rfl) ?_ | refine GO.efu (by exact Ef.convBytes [97] rfl rfl) ?_) | ((with_reducible apply GPW.atEfu); first | refine GPW.efu (Ef.convBytes [97] rfl rfl) ?_ | refine GPW.efu (by exact Ef.convBytes [97] rfl rfl) ?_))
  rintro _ _ ⟨rfl, rfl⟩
  repeat (first | refine run ?_ | intro _)
  (first | ((with_reducible apply GO.atPlain); first | refine GO.ef (Ef.callAt (send_spec a (EndS.new 2) _ _ _ [97] rfl ok0 (by decide) (by decide)) rfl) (by decide) ?_ | refine GO.ef (by exact Ef.callAt (send_spec a (EndS.new 2) _ _ _ [97] rfl ok0 (by decide) (by decide)) rfl) (by decide) ?_) | ((with_reducible apply GPW.atEf); first | refine GPW.ef (Ef.callAt (send_spec a (EndS.new 2) _ _ _ [97] rfl ok0 (by decide) (by decide)) rfl) (by decide) ?_ | refine GPW.ef (by exact Ef.callAt (send_spec a (EndS.new 2) _ _ _ [97] rfl ok0 (by decide) (by decide)) rfl) (by decide) ?_))
  rintro _ _ ⟨rfl, rfl⟩
  repeat (first | refine run ?_ | intro _)
  (first | ((with_reducible apply GO.atPlain); first | refine GO.ef (Ef.convBytes [98] rfl rfl) (by decide) ?_ | refine GO.ef (by exact Ef.convBytes [98] rfl rfl) (by decide) ?_) | ((with_reducible apply GPW.atEf); first | refine GPW.ef (Ef.convBytes [98] rfl rfl) (by decide) ?_ | refine GPW.ef (by exact Ef.convBytes [98] rfl rfl) (by decide) ?_) | ((with_reducible apply GO.atUnit); first | refine GO.efu (Ef.convBytes [98] rfl rfl) ?_ | refine GO.efu (by exact Ef.convBytes [98] rfl rfl) ?_) | ((with_reducible apply GPW.atEfu); first | refine GPW.efu (Ef.convBytes [98] rfl rfl) ?_ | refine GPW.efu (by exact Ef.convBytes [98] rfl rfl) ?_))
  rintro _ _ ⟨rfl, rfl⟩
  repeat (first | refine run ?_ | intro _)
  (first | ((with_reducible apply GO.atPlain); first | refine GO.ef (Ef.callAt (send_spec a _ _ _ _ [98] rfl ok1 (by decide) (by decide)) rfl) (by decide) ?_ | refine GO.ef (by exact Ef.callAt (send_spec a _ _ _ _ [98] rfl ok1 (by decide) (by decide)) rfl) (by decide) ?_) | ((with_reducible apply GPW.atEf); first | refine GPW.ef (Ef.callAt (send_spec a _ _ _ _ [98] rfl ok1 (by decide) (by decide)) rfl) (by decide) ?_ | refine GPW.ef (by exact Ef.callAt (send_spec a _ _ _ _ [98] rfl ok1 (by decide) (by decide)) rfl) (by decide) ?_))
  rintro _ _ ⟨rfl, rfl⟩
  repeat (first | refine run ?_ | intro _)
  (first | ((with_reducible apply GO.atPlain); first | refine GO.ef (Ef.convBytes [99] rfl rfl) (by decide) ?_ | refine GO.ef (by exact Ef.convBytes [99] rfl rfl) (by decide) ?_) | ((with_reducible apply GPW.atEf); first | refine GPW.ef (Ef.convBytes [99] rfl rfl) (by decide) ?_ | refine GPW.ef (by exact Ef.convBytes [99] rfl rfl) (by decide) ?_) | ((with_reducible apply GO.atUnit); first | refine GO.efu (Ef.convBytes [99] rfl rfl) ?_ | refine GO.efu (by exact Ef.convBytes [99] rfl rfl) ?_) | ((with_reducible apply GPW.atEfu); first | refine GPW.efu (Ef.convBytes [99] rfl rfl) ?_ | refine GPW.efu (by exact Ef.convBytes [99] rfl rfl) ?_))
  rintro _ _ ⟨rfl, rfl⟩
  repeat (first | refine run ?_ | intro _)
  (first | ((with_reducible apply GO.atPlain); first | refine GO.ef (Ef.callAt (send_spec a _ _ _ _ [99] rfl ok2 (by decide) (by decide)) rfl) (by decide) ?_ | refine GO.ef (by exact Ef.callAt (send_spec a _ _ _ _ [99] rfl ok2 (by decide) (by decide)) rfl) (by decide) ?_) | ((with_reducible apply GPW.atEf); first | refine GPW.ef (Ef.callAt (send_spec a _ _ _ _ [99] rfl ok2 (by decide) (by decide)) rfl) (by decide) ?_ | refine GPW.ef (by exact Ef.callAt (send_spec a _ _ _ _ [99] rfl ok2 (by decide) (by decide)) rfl) (by decide) ?_))
  rintro _ _ ⟨rfl, rfl⟩
  repeat (first | refine run ?_ | intro _)
  rw [ex4] at ok3 ⊢
  (first | ((with_reducible apply GO.atPlain); first | refine GO.ef (Ef.callAt (out_spec a _ ok3 (by decide)) rfl) (by decide) ?_ | refine GO.ef (by exact Ef.callAt (out_spec a _ ok3 (by decide)) rfl) (by decide) ?_) | ((with_reducible apply GPW.atEf); first | refine GPW.ef (Ef.callAt (out_spec a _ ok3 (by decide)) rfl) (by decide) ?_ | refine GPW.ef (by exact Ef.callAt (out_spec a _ ok3 (by decide)) rfl) (by decide) ?_))
  rintro _ _ ⟨ad, cap, ps, rfl, hps, rfl⟩
  have hp := hps.trans (show _ = [(1, 0, [97]), (2, 0, [98])] by decide)
  rw [show ps.length = 2 from len_of hp]
  obtain ⟨ad1, cap1, ad2, cap2, rfl⟩ := abs_two hp
  clear hps hp
  repeat (first | refine run ?_ | intro _)
  refine GO.ent (Ent.at (A := bigO pkO [⟨1, 0, ⟨ad1, cap1, [97]⟩⟩, ⟨2, 0, ⟨ad2, cap2, [98]⟩⟩]) Ent.bigO_uncons) ?_
  refine GO.ent (Ent.at (A := bigO pkO [⟨2, 0, ⟨ad2, cap2, [98]⟩⟩]) Ent.bigO_uncons) ?_
  simp only [pkO]
  (first | ((with_reducible apply GO.atPlain); first | refine GO.ef (Ef.callAt (in_spec b _ 2 0 ad2 1 cap2 [98] rfl ok0) rfl) (by decide) ?_ | refine GO.ef (by exact Ef.callAt (in_spec b _ 2 0 ad2 1 cap2 [98] rfl ok0) rfl) (by decide) ?_) | ((with_reducible apply GPW.atEf); first | refine GPW.ef (Ef.callAt (in_spec b _ 2 0 ad2 1 cap2 [98] rfl ok0) rfl) (by decide) ?_ | refine GPW.ef (by exact Ef.callAt (in_spec b _ 2 0 ad2 1 cap2 [98] rfl ok0) rfl) (by decide) ?_))
  rw [ex1]
  rintro _ _ ⟨ad3, cap3, ms, rfl, hms, rfl⟩
  rw [show ms.length = 0 from len_of hms]
  have hz := bs_nil hms
  subst hz
  have ok4 : (⟨2, 0, [], 0, [(2, [98])], true⟩ : EndS).Ok := ⟨by decide, by decide, by decide, by decide⟩
  repeat (first | refine run ?_ | intro _)
  (first | ((with_reducible apply GO.atPlain); first | refine GO.ef (Ef.callAt (in_spec b _ 1 0 ad1 1 cap1 [97] rfl ok4) rfl) (by decide) ?_ | refine GO.ef (by exact Ef.callAt (in_spec b _ 1 0 ad1 1 cap1 [97] rfl ok4) rfl) (by decide) ?_) | ((with_reducible apply GPW.atEf); first | refine GPW.ef (Ef.callAt (in_spec b _ 1 0 ad1 1 cap1 [97] rfl ok4) rfl) (by decide) ?_ | refine GPW.ef (by exact Ef.callAt (in_spec b _ 1 0 ad1 1 cap1 [97] rfl ok4) rfl) (by decide) ?_))
  rw [ex2]
  rintro _ _ ⟨ad4, cap4, ms, rfl, hms4, rfl⟩
  rw [show ms.length = 2 from len_of hms4]
  obtain ⟨ad5, cap5, ad6, cap6, rfl⟩ := bs_two hms4
  clear hms hms4
  have ok5 : (⟨2, 0, [], 2, [], true⟩ : EndS).Ok := ⟨by decide, by decide, by decide, by decide⟩
  repeat (first | refine run ?_ | intro _)
  (first | ((with_reducible apply GO.atPlain); first | refine GO.ef (Ef.callAt (out_spec b _ ok5 (by decide)) rfl) (by decide) ?_ | refine GO.ef (by exact Ef.callAt (out_spec b _ ok5 (by decide)) rfl) (by decide) ?_) | ((with_reducible apply GPW.atEf); first | refine GPW.ef (Ef.callAt (out_spec b _ ok5 (by decide)) rfl) (by decide) ?_ | refine GPW.ef (by exact Ef.callAt (out_spec b _ ok5 (by decide)) rfl) (by decide) ?_))
  rintro _ _ ⟨ad7, cap7, ps, rfl, hps7, rfl⟩
  have hp := hps7.trans (show _ = [(0, 2, [])] by decide)
  rw [show ps.length = 1 from len_of hp]
  obtain ⟨ad8, cap8, rfl⟩ := abs_one hp
  clear hps7 hp
  repeat (first | refine run ?_ | intro _)
  refine GO.ent (Ent.at (A := allP msgP [⟨ad5, cap5, [97]⟩, ⟨ad6, cap6, [98]⟩]) (Ent.allP_get (x := ⟨ad6, cap6, [98]⟩) (by simp))) ?_
  (first | ((with_reducible apply GO.atPlain); first | refine GO.ev (Ev.convStr (ad := ad6) (xs := [98]) rfl rfl) (by decide) ?_ | refine GO.ev (by exact Ev.convStr (ad := ad6) (xs := [98]) rfl rfl) (by decide) ?_) | ((with_reducible apply GPW.atEv); first | refine GPW.evP (Ev.convStr (ad := ad6) (xs := [98]) rfl rfl) (by decide) ?_ | refine GPW.evP (by exact Ev.convStr (ad := ad6) (xs := [98]) rfl rfl) (by decide) ?_) | ((with_reducible apply GPW.atEv); first | refine GPW.evL (Ev.convStr (ad := ad6) (xs := [98]) rfl rfl) (by decide) ?_ | refine GPW.evL (by exact Ev.convStr (ad := ad6) (xs := [98]) rfl rfl) (by decide) ?_))
  repeat (first | refine run ?_ | intro _)
  refine GB.neg (fun h => h rfl) ?_
  repeat (first | refine run ?_ | intro _)
  refine GO.ent (Ent.at (A := bigO pkO [⟨0, 2, ⟨ad8, cap8, []⟩⟩]) Ent.bigO_uncons) ?_
  simp only [pkO]
  (first | ((with_reducible apply GO.atPlain); first | refine GO.ef (Ef.callAt (in_spec a _ 0 2 ad8 0 cap8 [] rfl ok3.quiet) rfl) (by decide) ?_ | refine GO.ef (by exact Ef.callAt (in_spec a _ 0 2 ad8 0 cap8 [] rfl ok3.quiet) rfl) (by decide) ?_) | ((with_reducible apply GPW.atEf); first | refine GPW.ef (Ef.callAt (in_spec a _ 0 2 ad8 0 cap8 [] rfl ok3.quiet) rfl) (by decide) ?_ | refine GPW.ef (by exact Ef.callAt (in_spec a _ 0 2 ad8 0 cap8 [] rfl ok3.quiet) rfl) (by decide) ?_))
  rw [ex3]
  rintro _ _ ⟨ad9, cap9, ms, rfl, hms9, rfl⟩
  have ok6 : (⟨2, 3, [[99]], 0, [], false⟩ : EndS).Ok := ⟨by decide, by decide, by decide, by decide⟩
  repeat (first | refine run ?_ | intro _)
  (first | ((with_reducible apply GO.atPlain); first | refine GO.ef (Ef.callAt (out_spec a _ ok6 (by decide)) rfl) (by decide) ?_ | refine GO.ef (by exact Ef.callAt (out_spec a _ ok6 (by decide)) rfl) (by decide) ?_) | ((with_reducible apply GPW.atEf); first | refine GPW.ef (Ef.callAt (out_spec a _ ok6 (by decide)) rfl) (by decide) ?_ | refine GPW.ef (by exact Ef.callAt (out_spec a _ ok6 (by decide)) rfl) (by decide) ?_))
  rintro _ _ ⟨ad10, cap10, ps, rfl, hps10, rfl⟩
  have hp := hps10.trans (show _ = [(3, 0, [99])] by decide)
  rw [show ps.length = 1 from len_of hp]
  obtain ⟨ad11, cap11, rfl⟩ := abs_one hp
  clear hps10 hp
  refine GO.ent (Ent.at (A := bigO pkO [⟨3, 0, ⟨ad11, cap11, [99]⟩⟩]) Ent.bigO_uncons) ?_
  simp only [pkO]
  repeat (first | refine run ?_ | intro _)
  (first | ((with_reducible apply GO.atPlain); first | refine GO.ev (Ev.convStr (ad := ad11) (xs := [99]) rfl rfl) (by decide) ?_ | refine GO.ev (by exact Ev.convStr (ad := ad11) (xs := [99]) rfl rfl) (by decide) ?_) | ((with_reducible apply GPW.atEv); first | refine GPW.evP (Ev.convStr (ad := ad11) (xs := [99]) rfl rfl) (by decide) ?_ | refine GPW.evP (by exact Ev.convStr (ad := ad11) (xs := [99]) rfl rfl) (by decide) ?_) | ((with_reducible apply GPW.atEv); first | refine GPW.evL (Ev.convStr (ad := ad11) (xs := [99]) rfl rfl) (by decide) ?_ | refine GPW.evL (by exact Ev.convStr (ad := ad11) (xs := [99]) rfl rfl) (by decide) ?_))
  repeat (first | refine run ?_ | intro _)
  refine GB.pos rfl ?_
  repeat (first | refine run ?_ | intro _)
  (first | ((with_reducible apply GO.atPlain); first | refine GO.ef (Ef.callAt (waiting_spec a ⟨2, 3, [[99]], 0, [], false⟩) rfl) (by decide) ?_ | refine GO.ef (by exact Ef.callAt (waiting_spec a ⟨2, 3, [[99]], 0, [], false⟩) rfl) (by decide) ?_) | ((with_reducible apply GPW.atEf); first | refine GPW.ef (Ef.callAt (waiting_spec a ⟨2, 3, [[99]], 0, [], false⟩) rfl) (by decide) ?_ | refine GPW.ef (by exact Ef.callAt (waiting_spec a ⟨2, 3, [[99]], 0, [], false⟩) rfl) (by decide) ?_))
  rintro _ _ ⟨rfl, rfl⟩
  repeat (first | refine run ?_ | intro _)
  exact KX.ends (by first | exact ResOk.tmps rfl | (repeat (first | exact ResOk.nil | refine ResOk.tmp rfl ?_ | refine ResOk.cell rfl (by rfl) ?_ | refine ResOk.cell1 rfl ?_))) (Ent.nil _) ⟨by simp [resV, dB_eq], rfl⟩
end Go.Proofs.Ytnpienjfapjjoaa
