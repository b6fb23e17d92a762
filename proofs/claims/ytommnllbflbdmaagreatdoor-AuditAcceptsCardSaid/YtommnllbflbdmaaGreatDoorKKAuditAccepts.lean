/-
 'worldmintlaw..AuditAccepts' returns true for every input,and each argument reads behind the call as it did before. No condition.
-/
import Derived.Test.YtommnllbflbdmaaGreatDoorAG52
import Derived.Test.YtommnllbflbdmaaGreatDoorTie
import Derived.Test.YtommnllbflbdmaaGreatDoorAFAuditAccepts
set_option linter.all false
set_option maxHeartbeats 4000000
namespace Go.Proofs.YtommnllbflbdmaaGreatDoor.auditAccepts
open Go.ChangeShapes Go.WideShapes Go.ChangeAt Go.RowKit Go.V
theorem own:ownKnob Tryz.prog.godebug=none:=krStd0
theorem Il:laidOutB ai=true:=krStd0
set_option maxRecDepth 100000 in
theorem wit(os:Os)(H:Type)(enc:TypeId×Value→H) :
  ∃(w:World) (tape:Tape) (i:Input),w.os=os∧(w.forCall tape i).Shaped Tryz.checked.prog∧i.vars=[]∧Input.okWide Tryz.checked.prog (w.forCall tape i) .any w.heap.size 5 i ∧
   ((Rows.auditAcceptsSpec.pre enc Tryz.checked.prog Tryz.f5 [] false (w.forCall tape i).memory i.args∧laidMetH ai laidK (w.forCall tape i).memory)∧sizedMet enc Tryz.checked.prog Tryz.f5 (OpenSpec.ofChange Rows.auditAcceptsSpec) false (w.forCall tape i).memory i.args)∧({}:Assume).holds Tryz.checked.prog (lone (Frame.enter Tryz.checked.prog 5 i.args .normal) [] (w.forCall tape i)) :=
 ChangeSpec.witness_shaped (enc:=enc) (C:=Tryz.checked) (os:=os) (X:=fun w _=>laidMetH ai laidK w) false (World.doorLaid ai 400 os) #[ah none 0 0,ac 0] 8 rfl (World.shaped_of_RefB krStd0 krStd0) krStd0 krStd0 krStd0 (Hr os _)
set_option maxRecDepth 100000 in
theorem lifted(os:Os)(started:os.Started)(H:Type)(enc:TypeId×Value→H) :
  ReturnsInHanded {} Tryz.checked os 5 .any (fun w args=>(Rows.auditAcceptsSpec.pre enc ai Tryz.f5 [] false w args∧laidMetH ai laidK w)∧sizedMet enc ai Tryz.f5 (OpenSpec.ofChange Rows.auditAcceptsSpec) false w args) (Rows.auditAcceptsSpec.post enc ai Tryz.f5 false true false false):=by
 refine returnsInHanded_of_change_and (C:=Tryz.checked) (X:=fun w _=>laidMetH ai laidK w) (fun _ _ _ hh h=>h.of_heap hh) own started krStd0 Tryz.func5
  (wit os H enc) ?_
 intro W base args ds gs before hval0 hW _ _ hL _;have hval:∀(j:Nat) t v,Tryz.f5.params[j]? = some t→args[j]? = some v→Value.okWide ai W .any base t v:=hval0;have hW':=hW;obtain⟨p,q,hA0,hV,rfl,hfz,hnd⟩:=hW;have hA:DataW.TrodAll enc ai W 0 (fun _=>true) true Tryz.f5.params.toList args.toList ds p:=hA0;rw[Tryz.params5] at hA hval;obtain⟨v0,vs0,d0,ds0,p0,q0,hargs,rfl,rfl,h0,r0⟩:=trodAll_cons hA;obtain⟨v1,vs1,d1,ds1,p1,q1,rfl,rfl,rfl,h1,r1⟩:=trodAll_cons r0;obtain⟨rfl,rfl,rfl⟩:=trodAll_nil r1;obtain rfl:args=#[v0,v1]:=by cases args;simp_all
 obtain⟨rfl,rfl⟩:=trodVars_none hV;have hk0:=h0;obtain⟨ad0,len0,cap0,rfl⟩:=okWide_slice Tryz.underlying22 (hval 0 22 v0 rfl rfl);obtain⟨xs0,hi0,hl0,hm0,hw0⟩:=Ij Tryz.underlying22 Tryz.underlying3 krStd0 h0;have b0:∀x∈xs0,-9223372036854775808≤x∧x≤9223372036854775807:=fun x hx=>EJ (hw0 x hx);obtain⟨a1,rfl,rfl,rfl,w1⟩:=open_int Tryz.underlying3 (hval 1 3 v1 rfl rfl) h1;have b1 : -9223372036854775808≤a1∧a1≤9223372036854775807:=EJ w1;clear hA0 hval0;simp only[aQ] at hW';have hlt0:∀x∈p0,x.block<W.heap.size:=fun x hx=>by have:=hW'.lt x (by simp[hx]);simpa using this
 refine(Tri.law (rn (L:=[isl (Go.V.encZ .i64) 1 ad0 xs0]) ad0 len0 cap0 xs0 hl0 (cK hm0.1 hm0.2) b0 a1 b1) W (Stars.push (DO hL) (Stars.push hi0 trivial))).mono fun e W' ⟨he,hg⟩=>?_;subst he;exact⟨_,rfl,Cx (pv:=[]) hW' (fun _ _ _=>(trodAll_cons_mk (shut_bool Tryz.underlying4 _) trodAll_mk0)) (trodAll_cons_mk (Below.trod Il krStd0 (of_decide_eq_true krStd0) hk0 hg hlt0) (trodAll_cons_mk (shut_int Tryz.underlying3 w1) trodAll_mk0)) rfl bZ hg⟩
theorem over:Rows.auditAcceptsRow.holds Tryz.pinned (OpenSpec.ofChange Rows.auditAcceptsSpec) :=
 OpenClaim.holds_of_wide 5 Tryz.f5 rfl rfl rfl rfl rfl rfl rfl ⟨rfl,rfl,rfl,rfl,rfl⟩ rfl rfl rfl rfl rfl krStd0 Tryz.func5 closed
  (of_decide_eq_true krStd0) (by unfold Func.isWrapper;first|(rw[if_pos (by decide +kernel)];kernel_rfl)|(rw[if_neg (by decide +kernel)];exact⟨rfl,rfl⟩))
  (fun os started H enc _=>lifted os started H enc)
end Go.Proofs.YtommnllbflbdmaaGreatDoor.auditAccepts
namespace Go.Proofs.YtommnllbflbdmaaGreatDoor
theorem auditAcceptsCard_holds:Rows.AuditAcceptsCardSaid :=
 Claim7.holds_tied_plain_at .later [] [.data] true (true, "1fadffcab595cda3fb4a67f12a07ab05dfd9da4af71aeaf08e3889079383beb0") true
  auditAccepts.over (fun _ h=>by cases h) auditAccepts.kc1 (fun _ h=>by cases h) auditAccepts_row_tie rfl ⟨rfl,rfl⟩ auditAccepts.kc2 rfl
  (fun f fn hf hfn=>by
   obtain rfl:f=5:=Option.some.inj (auditAccepts.kc6.symm.trans hf) |>.symm;obtain rfl:fn=Tryz.f5:=(Option.some.inj (Tryz.func5.symm.trans hfn)).symm
   exact⟨auditAccepts.kc3,fun j t ht=>by
    rw[Tryz.params5] at ht;have hm:t∈[22,3]:=by simpa using Array.mem_of_getElem? ht
    have hall:([22,3].all fun u=>!Tryz.prog.wantsStandIn u)=true:=auditAccepts.kc4;exact(show Tryz.prog.wantsStandIn t=false by simpa using List.all_eq_true.1 hall t hm)⟩)
  auditAccepts.kc5
end Go.Proofs.YtommnllbflbdmaaGreatDoor
