/-
 'worldmintlaw..AuditFinds' returns true for every input,and each argument reads behind the call as it did before. No condition.
-/
import Derived.Test.YtommnllbflbdmaaGreatDoorFG54
import Derived.Test.YtommnllbflbdmaaGreatDoorTie
import Derived.Test.YtommnllbflbdmaaGreatDoorFFAuditFinds
set_option linter.all false
set_option maxHeartbeats 4000000
namespace Go.Proofs.YtommnllbflbdmaaGreatDoor.auditFinds
open Go.ChangeShapes Go.WideShapes Go.ChangeAt Go.RowKit Go.V
theorem own:ownKnob Tryz.prog.godebug=none:=krStd0
theorem ID:laidOutB ai=true:=krStd0
set_option maxRecDepth 100000 in
theorem wit(os:Os)(H:Type)(enc:TypeId×Value→H) :
  ∃(w:World) (tape:Tape) (i:Input),w.os=os∧(w.forCall tape i).Shaped Tryz.checked.prog∧i.vars=[]∧Input.okWide Tryz.checked.prog (w.forCall tape i) .any w.heap.size 6 i ∧
   ((Rows.auditFindsSpec.pre enc Tryz.checked.prog Tryz.f6 [] false (w.forCall tape i).memory i.args∧laidMetH ai laidK (w.forCall tape i).memory)∧sizedMet enc Tryz.checked.prog Tryz.f6 (OpenSpec.ofChange Rows.auditFindsSpec) false (w.forCall tape i).memory i.args)∧({}:Assume).holds Tryz.checked.prog (lone (Frame.enter Tryz.checked.prog 6 i.args .normal) [] (w.forCall tape i)) :=
 ChangeSpec.witness_shaped (enc:=enc) (C:=Tryz.checked) (os:=os) (X:=fun w _=>laidMetH ai laidK w) false (World.doorLaid ai 400 os) #[ah none 0 0,ac 0,ac 0,ac 0,ac 0] 8 rfl (World.shaped_of_RefB krStd0 krStd0) krStd0 krStd0 krStd0 (HH os _)
set_option maxRecDepth 100000 in
theorem lifted(os:Os)(started:os.Started)(H:Type)(enc:TypeId×Value→H) :
  ReturnsInHanded {} Tryz.checked os 6 .any (fun w args=>(Rows.auditFindsSpec.pre enc ai Tryz.f6 [] false w args∧laidMetH ai laidK w)∧sizedMet enc ai Tryz.f6 (OpenSpec.ofChange Rows.auditFindsSpec) false w args) (Rows.auditFindsSpec.post enc ai Tryz.f6 false true false false):=by
 refine returnsInHanded_of_change_and (C:=Tryz.checked) (X:=fun w _=>laidMetH ai laidK w) (fun _ _ _ hh h=>h.of_heap hh) own started krStd0 Tryz.func6
  (wit os H enc) ?_
 intro W base args ds gs before hval0 hW _ _ hL _;have hval:∀(j:Nat) t v,Tryz.f6.params[j]? = some t→args[j]? = some v→Value.okWide ai W .any base t v:=hval0;have hW':=hW;obtain⟨p,q,hA0,hV,rfl,hfz,hnd⟩:=hW;have hA:DataW.TrodAll enc ai W 0 (fun _=>true) true Tryz.f6.params.toList args.toList ds p:=hA0;rw[Tryz.params6] at hA hval;obtain⟨v0,vs0,d0,ds0,p0,q0,hargs,rfl,rfl,h0,r0⟩:=trodAll_cons hA;obtain⟨v1,vs1,d1,ds1,p1,q1,rfl,rfl,rfl,h1,r1⟩:=trodAll_cons r0;obtain⟨v2,vs2,d2,ds2,p2,q2,rfl,rfl,rfl,h2,r2⟩:=trodAll_cons r1;obtain⟨v3,vs3,d3,ds3,p3,q3,rfl,rfl,rfl,h3,r3⟩:=trodAll_cons r2;obtain⟨v4,vs4,d4,ds4,p4,q4,rfl,rfl,rfl,h4,r4⟩:=trodAll_cons r3;obtain⟨rfl,rfl,rfl⟩:=trodAll_nil r4;obtain rfl:args=#[v0,v1,v2,v3,v4]:=by cases args;simp_all
 obtain⟨rfl,rfl⟩:=trodVars_none hV;have hk0:=h0;obtain⟨ad0,len0,cap0,rfl⟩:=okWide_slice Tryz.underlying22 (hval 0 22 v0 rfl rfl);obtain⟨xs0,hi0,hl0,hm0,hw0⟩:=IB Tryz.underlying22 Tryz.underlying3 krStd0 h0;have b0:∀x∈xs0,-9223372036854775808≤x∧x≤9223372036854775807:=fun x hx=>pP (hw0 x hx);obtain⟨a1,rfl,rfl,rfl,w1⟩:=open_int Tryz.underlying3 (hval 1 3 v1 rfl rfl) h1;have b1 : -9223372036854775808≤a1∧a1≤9223372036854775807:=pP w1;obtain⟨a2,rfl,rfl,rfl,w2⟩:=open_int Tryz.underlying3 (hval 2 3 v2 rfl rfl) h2;have b2 : -9223372036854775808≤a2∧a2≤9223372036854775807:=pP w2;obtain⟨a3,rfl,rfl,rfl,w3⟩:=open_int Tryz.underlying3 (hval 3 3 v3 rfl rfl) h3;have b3 : -9223372036854775808≤a3∧a3≤9223372036854775807:=pP w3;obtain⟨a4,rfl,rfl,rfl,w4⟩:=open_int Tryz.underlying3 (hval 4 3 v4 rfl rfl) h4;have b4 : -9223372036854775808≤a4∧a4≤9223372036854775807:=pP w4;clear hA0 hval0;simp only[aR] at hW';have hlt0:∀x∈p0,x.block<W.heap.size:=fun x hx=>by have:=hW'.lt x (by simp[hx]);simpa using this
 refine(Tri.law (uf (L:=[isl (Go.V.encZ .i64) 1 ad0 xs0]) ad0 len0 cap0 xs0 hl0 (cO hm0.1 hm0.2) b0 a1 b1 a2 b2 a3 b3 a4 b4) W (Stars.push (Ed hL) (Stars.push hi0 trivial))).mono fun e W' ⟨he,hg⟩=>?_;subst he;exact⟨_,rfl,CO (pv:=[]) hW' (fun _ _ _=>(trodAll_cons_mk (shut_bool Tryz.underlying4 _) trodAll_mk0)) (trodAll_cons_mk (Below.trod ID krStd0 (of_decide_eq_true krStd0) hk0 hg hlt0) (trodAll_cons_mk (shut_int Tryz.underlying3 w1) (trodAll_cons_mk (shut_int Tryz.underlying3 w2) (trodAll_cons_mk (shut_int Tryz.underlying3 w3) (trodAll_cons_mk (shut_int Tryz.underlying3 w4) trodAll_mk0))))) rfl ce hg⟩
theorem over:Rows.auditFindsRow.holds Tryz.pinned (OpenSpec.ofChange Rows.auditFindsSpec) :=
 OpenClaim.holds_of_wide 6 Tryz.f6 rfl rfl rfl rfl rfl rfl rfl ⟨rfl,rfl,rfl,rfl,rfl⟩ rfl rfl rfl rfl rfl krStd0 Tryz.func6 closed
  (of_decide_eq_true krStd0) (by unfold Func.isWrapper;first|(rw[if_pos (by decide +kernel)];kernel_rfl)|(rw[if_neg (by decide +kernel)];exact⟨rfl,rfl⟩))
  (fun os started H enc _=>lifted os started H enc)
end Go.Proofs.YtommnllbflbdmaaGreatDoor.auditFinds
namespace Go.Proofs.YtommnllbflbdmaaGreatDoor
theorem auditFindsCard_holds:Rows.AuditFindsCardSaid :=
 Claim7.holds_tied_plain_at .later [] [.data] true (true, "1fadffcab595cda3fb4a67f12a07ab05dfd9da4af71aeaf08e3889079383beb0") true
  auditFinds.over (fun _ h=>by cases h) auditFinds.kc1 (fun _ h=>by cases h) auditFinds_row_tie rfl ⟨rfl,rfl⟩ auditFinds.kc2 rfl
  (fun f fn hf hfn=>by
   obtain rfl:f=6:=Option.some.inj (auditFinds.kc6.symm.trans hf) |>.symm;obtain rfl:fn=Tryz.f6:=(Option.some.inj (Tryz.func6.symm.trans hfn)).symm
   exact⟨auditFinds.kc3,fun j t ht=>by
    rw[Tryz.params6] at ht;have hm:t∈[22,3,3,3,3]:=by simpa using Array.mem_of_getElem? ht
    have hall:([22,3,3,3,3].all fun u=>!Tryz.prog.wantsStandIn u)=true:=auditFinds.kc4;exact(show Tryz.prog.wantsStandIn t=false by simpa using List.all_eq_true.1 hall t hm)⟩)
  auditFinds.kc5
end Go.Proofs.YtommnllbflbdmaaGreatDoor
