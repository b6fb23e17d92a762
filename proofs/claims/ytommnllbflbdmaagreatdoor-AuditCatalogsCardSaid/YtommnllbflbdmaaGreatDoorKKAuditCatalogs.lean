/-
 'worldmintlaw..AuditCatalogs' returns true for every input,and each argument reads behind the call as it did before. No condition.
-/
import Derived.Test.YtommnllbflbdmaaGreatDoorCatdg
import Derived.Test.YtommnllbflbdmaaGreatDoorTie
import Derived.Test.YtommnllbflbdmaaGreatDoorCatFAuditCatalogs
set_option linter.all false
set_option maxHeartbeats 4000000
namespace Go.Proofs.YtommnllbflbdmaaGreatDoor.auditCatalogs
open Go.ChangeShapes Go.WideShapes Go.ChangeAt Go.RowKit Go.V
theorem own:ownKnob Tryz.prog.godebug=none:=krStd0
theorem AQ:laidOutB ai=true:=krStd0
set_option maxRecDepth 100000 in
theorem wit(os:Os)(H:Type)(enc:TypeId×Value→H) :
  ∃(w:World) (tape:Tape) (i:Input),w.os=os∧(w.forCall tape i).Shaped Tryz.checked.prog∧i.vars=[]∧Input.okWide Tryz.checked.prog (w.forCall tape i) .any w.heap.size 7 i ∧
   ((Rows.auditCatalogsSpec.pre enc Tryz.checked.prog Tryz.f7 [] false (w.forCall tape i).memory i.args∧laidMetH ai laidK (w.forCall tape i).memory)∧sizedMet enc Tryz.checked.prog Tryz.f7 (OpenSpec.ofChange Rows.auditCatalogsSpec) false (w.forCall tape i).memory i.args)∧({}:Assume).holds Tryz.checked.prog (lone (Frame.enter Tryz.checked.prog 7 i.args .normal) [] (w.forCall tape i)) :=
 ChangeSpec.witness_shaped (enc:=enc) (C:=Tryz.checked) (os:=os) (X:=fun w _=>laidMetH ai laidK w) false (World.doorLaid ai 400 os) #[ae none 0 0,ae none 0 0] 8 rfl (World.shaped_of_RefB krStd0 krStd0) krStd0 krStd0 krStd0 (Gt os _)
set_option maxRecDepth 100000 in
theorem lifted(os:Os)(started:os.Started)(H:Type)(enc:TypeId×Value→H) :
  ReturnsInHanded {} Tryz.checked os 7 .any (fun w args=>(Rows.auditCatalogsSpec.pre enc ai Tryz.f7 [] false w args∧laidMetH ai laidK w)∧sizedMet enc ai Tryz.f7 (OpenSpec.ofChange Rows.auditCatalogsSpec) false w args) (Rows.auditCatalogsSpec.post enc ai Tryz.f7 false true false false):=by
 refine returnsInHanded_of_change_and (C:=Tryz.checked) (X:=fun w _=>laidMetH ai laidK w) (fun _ _ _ hh h=>h.of_heap hh) own started krStd0 Tryz.func7
  (wit os H enc) ?_
 intro W base args ds gs before hval0 hW _ _ hL _;have hval:∀(j:Nat) t v,Tryz.f7.params[j]? = some t→args[j]? = some v→Value.okWide ai W .any base t v:=hval0;have hW':=hW;obtain⟨p,q,hA0,hV,rfl,hfz,hnd⟩:=hW;have hA:DataW.TrodAll enc ai W 0 (fun _=>true) true Tryz.f7.params.toList args.toList ds p:=hA0;rw[Tryz.params7] at hA hval;obtain⟨v0,vs0,d0,ds0,p0,q0,hargs,rfl,rfl,h0,r0⟩:=trodAll_cons hA;obtain⟨v1,vs1,d1,ds1,p1,q1,rfl,rfl,rfl,h1,r1⟩:=trodAll_cons r0;obtain⟨rfl,rfl,rfl⟩:=trodAll_nil r1;obtain rfl:args=#[v0,v1]:=by cases args;simp_all
 obtain⟨rfl,rfl⟩:=trodVars_none hV;have hk0:=h0;obtain⟨ad0,len0,cap0,rfl⟩:=okWide_slice Tryz.underlying22 (hval 0 22 v0 rfl rfl);obtain⟨xs0,hi0,hl0,hm0,hw0⟩:=AM Tryz.underlying22 Tryz.underlying3 krStd0 h0;have b0:∀x∈xs0,-9223372036854775808≤x∧x≤9223372036854775807:=fun x hx=>DP (hw0 x hx);have hk1:=h1;obtain⟨ad1,len1,cap1,rfl⟩:=okWide_slice Tryz.underlying22 (hval 1 22 v1 rfl rfl);obtain⟨xs1,hi1,hl1,hm1,hw1⟩:=AM Tryz.underlying22 Tryz.underlying3 krStd0 h1;have b1:∀x∈xs1,-9223372036854775808≤x∧x≤9223372036854775807:=fun x hx=>DP (hw1 x hx);clear hA0 hval0;simp only[aO] at hW';have hlt0:∀x∈p0,x.block<W.heap.size:=fun x hx=>by have:=hW'.lt x (by simp[hx]);simpa using this
 have hlt1:∀x∈p1,x.block<W.heap.size:=fun x hx=>by have:=hW'.lt x (by simp[hx]);simpa using this
 refine(Tri.law (qm (L:=[isl (Go.V.encZ .i64) 1 ad0 xs0,isl (Go.V.encZ .i64) 1 ad1 xs1]) ad0 len0 cap0 xs0 hl0 (cN hm0.1 hm0.2) b0 ad1 len1 cap1 xs1 hl1 (cN hm1.1 hm1.2) b1) W (Stars.push (CQ hL) (Stars.push hi0 (Stars.push hi1 trivial)))).mono fun e W' ⟨he,hg⟩=>?_;subst he;exact⟨_,rfl,BG (pv:=[]) hW' (fun _ _ _=>(trodAll_cons_mk (shut_bool Tryz.underlying4 _) trodAll_mk0)) (trodAll_cons_mk (Below.trod AQ krStd0 (of_decide_eq_true krStd0) hk0 hg hlt0) (trodAll_cons_mk (Below.trod AQ krStd0 (of_decide_eq_true krStd0) hk1 hg hlt1) trodAll_mk0)) rfl bH hg⟩
theorem over:Rows.auditCatalogsRow.holds Tryz.pinned (OpenSpec.ofChange Rows.auditCatalogsSpec) :=
 OpenClaim.holds_of_wide 7 Tryz.f7 rfl rfl rfl rfl rfl rfl rfl ⟨rfl,rfl,rfl,rfl,rfl⟩ rfl rfl rfl rfl rfl krStd0 Tryz.func7 closed
  (of_decide_eq_true krStd0) (by unfold Func.isWrapper;first|(rw[if_pos (by decide +kernel)];kernel_rfl)|(rw[if_neg (by decide +kernel)];exact⟨rfl,rfl⟩))
  (fun os started H enc _=>lifted os started H enc)
end Go.Proofs.YtommnllbflbdmaaGreatDoor.auditCatalogs
namespace Go.Proofs.YtommnllbflbdmaaGreatDoor
theorem auditCatalogsCard_holds:Rows.AuditCatalogsCardSaid :=
 Claim7.holds_tied_plain_at .later [] [.data] true (true, "1fadffcab595cda3fb4a67f12a07ab05dfd9da4af71aeaf08e3889079383beb0") true
  auditCatalogs.over (fun _ h=>by cases h) auditCatalogs.kc1 (fun _ h=>by cases h) auditCatalogs_row_tie rfl ⟨rfl,rfl⟩ auditCatalogs.kc2 rfl
  (fun f fn hf hfn=>by
   obtain rfl:f=7:=Option.some.inj (auditCatalogs.kc6.symm.trans hf) |>.symm;obtain rfl:fn=Tryz.f7:=(Option.some.inj (Tryz.func7.symm.trans hfn)).symm
   exact⟨auditCatalogs.kc3,fun j t ht=>by
    rw[Tryz.params7] at ht;have hm:t∈[22,22]:=by simpa using Array.mem_of_getElem? ht
    have hall:([22,22].all fun u=>!Tryz.prog.wantsStandIn u)=true:=auditCatalogs.kc4;exact(show Tryz.prog.wantsStandIn t=false by simpa using List.all_eq_true.1 hall t hm)⟩)
  auditCatalogs.kc5
end Go.Proofs.YtommnllbflbdmaaGreatDoor
