/-
 'worldmintlaw..AuditImports' returns true for every input,and each argument reads behind the call as it did before. No condition.
-/
import Derived.Test.YtommnllbflbdmaaGreatDoorIG51
import Derived.Test.YtommnllbflbdmaaGreatDoorTie
import Derived.Test.YtommnllbflbdmaaGreatDoorIFAuditImports
set_option linter.all false
set_option maxHeartbeats 4000000
namespace Go.Proofs.YtommnllbflbdmaaGreatDoor.auditImports
open Go.ChangeShapes Go.WideShapes Go.ChangeAt Go.RowKit Go.V
theorem own:ownKnob Tryz.prog.godebug=none:=by kernel_rfl
theorem tB:laidOutB ag=true:=by kernel_rfl
set_option maxRecDepth 100000 in
theorem wit(os:Os)(H:Type)(enc:TypeId×Value→H) :
  ∃(w:World) (tape:Tape) (i:Input),w.os=os∧(w.forCall tape i).Shaped Tryz.checked.prog∧i.vars=[]∧Input.okWide Tryz.checked.prog (w.forCall tape i) .any w.heap.size 8 i ∧
   ((Rows.auditImportsSpec.pre enc Tryz.checked.prog Tryz.f8 [] false (w.forCall tape i).memory i.args∧laidMetH ag laidK (w.forCall tape i).memory)∧sizedMet enc Tryz.checked.prog Tryz.f8 (OpenSpec.ofChange Rows.auditImportsSpec) false (w.forCall tape i).memory i.args)∧({}:Assume).holds Tryz.checked.prog (lone (Frame.enter Tryz.checked.prog 8 i.args .normal) [] (w.forCall tape i)) :=
 ChangeSpec.witness_shaped (enc:=enc) (C:=Tryz.checked) (os:=os) (X:=fun w _=>laidMetH ag laidK w) false (World.doorLaid ag 400 os) #[.slice none 0 0,.slice none 0 0,.slice none 0 0,ac 0,ac 0,ac 0] 8 rfl (World.shaped_of_RefB aw aw) aw aw aw (Fl os _)
set_option maxRecDepth 100000 in
theorem lifted(os:Os)(started:os.Started)(H:Type)(enc:TypeId×Value→H) :
  ReturnsInHanded {} Tryz.checked os 8 .any (fun w args=>(Rows.auditImportsSpec.pre enc ag Tryz.f8 [] false w args∧laidMetH ag laidK w)∧sizedMet enc ag Tryz.f8 (OpenSpec.ofChange Rows.auditImportsSpec) false w args) (Rows.auditImportsSpec.post enc ag Tryz.f8 false true false false):=by
 refine returnsInHanded_of_change_and (C:=Tryz.checked) (X:=fun w _=>laidMetH ag laidK w) (fun _ _ _ hh h=>h.of_heap hh) own started aw Tryz.func8
  (wit os H enc) ?_
 intro W base args ds gs before hval0 hW _ _ hL _;have hval:∀(j:Nat) t v,Tryz.f8.params[j]? = some t→args[j]? = some v→Value.okWide ag W .any base t v:=hval0;have hW':=hW;obtain⟨p,q,hA0,hV,rfl,hfz,hnd⟩:=hW;have hA:DataW.TrodAll enc ag W 0 (fun _=>true) true Tryz.f8.params.toList args.toList ds p:=hA0;rw[Tryz.params8] at hA hval;obtain⟨v0,vs0,d0,ds0,p0,q0,hargs,rfl,rfl,h0,r0⟩:=trodAll_cons hA;obtain⟨v1,vs1,d1,ds1,p1,q1,rfl,rfl,rfl,h1,r1⟩:=trodAll_cons r0;obtain⟨v2,vs2,d2,ds2,p2,q2,rfl,rfl,rfl,h2,r2⟩:=trodAll_cons r1;obtain⟨v3,vs3,d3,ds3,p3,q3,rfl,rfl,rfl,h3,r3⟩:=trodAll_cons r2;obtain⟨v4,vs4,d4,ds4,p4,q4,rfl,rfl,rfl,h4,r4⟩:=trodAll_cons r3;obtain⟨v5,vs5,d5,ds5,p5,q5,rfl,rfl,rfl,h5,r5⟩:=trodAll_cons r4;obtain⟨rfl,rfl,rfl⟩:=trodAll_nil r5;obtain rfl:args=#[v0,v1,v2,v3,v4,v5]:=by cases args;simp_all
 obtain⟨rfl,rfl⟩:=trodVars_none hV;have hk0:=h0;obtain⟨ad0,len0,cap0,rfl⟩:=okWide_slice Tryz.underlying22 (hval 0 22 v0 rfl rfl);obtain⟨xs0,hi0,hl0,hm0,hw0⟩:=tq Tryz.underlying22 Tryz.underlying3 aw h0;have b0:∀x∈xs0,-9223372036854775808≤x∧x≤9223372036854775807:=fun x hx=>nz (hw0 x hx);have hk1:=h1;obtain⟨ad1,len1,cap1,rfl⟩:=okWide_slice Tryz.underlying22 (hval 1 22 v1 rfl rfl);obtain⟨xs1,hi1,hl1,hm1,hw1⟩:=tq Tryz.underlying22 Tryz.underlying3 aw h1;have b1:∀x∈xs1,-9223372036854775808≤x∧x≤9223372036854775807:=fun x hx=>nz (hw1 x hx);have hk2:=h2;obtain⟨ad2,len2,cap2,rfl⟩:=okWide_slice Tryz.underlying22 (hval 2 22 v2 rfl rfl);obtain⟨xs2,hi2,hl2,hm2,hw2⟩:=tq Tryz.underlying22 Tryz.underlying3 aw h2;have b2:∀x∈xs2,-9223372036854775808≤x∧x≤9223372036854775807:=fun x hx=>nz (hw2 x hx);obtain⟨a3,rfl,rfl,rfl,w3⟩:=open_int Tryz.underlying3 (hval 3 3 v3 rfl rfl) h3;have b3 : -9223372036854775808≤a3∧a3≤9223372036854775807:=nz w3;obtain⟨a4,rfl,rfl,rfl,w4⟩:=open_int Tryz.underlying3 (hval 4 3 v4 rfl rfl) h4;have b4 : -9223372036854775808≤a4∧a4≤9223372036854775807:=nz w4;obtain⟨a5,rfl,rfl,rfl,w5⟩:=open_int Tryz.underlying3 (hval 5 3 v5 rfl rfl) h5;have b5 : -9223372036854775808≤a5∧a5≤9223372036854775807:=nz w5;clear hA0 hval0;simp only[aY] at hW';have hlt0:∀x∈p0,x.block<W.heap.size:=fun x hx=>by have:=hW'.lt x (by simp[hx]);simpa using this
 have hlt1:∀x∈p1,x.block<W.heap.size:=fun x hx=>by have:=hW'.lt x (by simp[hx]);simpa using this
 have hlt2:∀x∈p2,x.block<W.heap.size:=fun x hx=>by have:=hW'.lt x (by simp[hx]);simpa using this
 refine(Tri.law (qq (L:=[isl (Go.V.encZ .i64) 1 ad0 xs0,isl (Go.V.encZ .i64) 1 ad1 xs1,isl (Go.V.encZ .i64) 1 ad2 xs2]) ad0 len0 cap0 xs0 hl0 (cg hm0.1 hm0.2) b0 ad1 len1 cap1 xs1 hl1 (cg hm1.1 hm1.2) b1 ad2 len2 cap2 xs2 hl2 (cg hm2.1 hm2.2) b2 a3 b3 a4 b4 a5 b5) W (Stars.push (BU hL) (Stars.push hi0 (Stars.push hi1 (Stars.push hi2 trivial))))).mono fun e W' ⟨he,hg⟩=>?_;subst he;exact⟨_,rfl,AT (pv:=[]) hW' (fun _ _ _=>(trodAll_cons_mk (shut_bool Tryz.underlying4 _) trodAll_mk0)) (trodAll_cons_mk (Below.trod tB aw (of_decide_eq_true aw) hk0 hg hlt0) (trodAll_cons_mk (Below.trod tB aw (of_decide_eq_true aw) hk1 hg hlt1) (trodAll_cons_mk (Below.trod tB aw (of_decide_eq_true aw) hk2 hg hlt2) (trodAll_cons_mk (shut_int Tryz.underlying3 w3) (trodAll_cons_mk (shut_int Tryz.underlying3 w4) (trodAll_cons_mk (shut_int Tryz.underlying3 w5) trodAll_mk0)))))) rfl (by simp) hg⟩
theorem over:Rows.auditImportsRow.holds Tryz.pinned (OpenSpec.ofChange Rows.auditImportsSpec) :=
 OpenClaim.holds_of_wide 8 Tryz.f8 rfl rfl rfl rfl rfl rfl rfl ⟨rfl,rfl,rfl,rfl,rfl⟩ rfl rfl rfl rfl rfl aw Tryz.func8 closed
  (of_decide_eq_true aw) (by unfold Func.isWrapper;first|(rw[if_pos (by decide +kernel)];kernel_rfl)|(rw[if_neg (by decide +kernel)];exact⟨rfl,rfl⟩))
  (fun os started H enc _=>lifted os started H enc)
end Go.Proofs.YtommnllbflbdmaaGreatDoor.auditImports
namespace Go.Proofs.YtommnllbflbdmaaGreatDoor
theorem auditImportsCard_holds:Rows.AuditImportsCardSaid :=
 Claim7.holds_tied_plain_at .later [] [.data] true (true, "1fadffcab595cda3fb4a67f12a07ab05dfd9da4af71aeaf08e3889079383beb0") true
  auditImports.over (fun _ h=>by cases h) auditImports.kc1 (fun _ h=>by cases h) auditImports_row_tie rfl ⟨rfl,rfl⟩ auditImports.kc2 rfl
  (fun f fn hf hfn=>by
   obtain rfl:f=8:=Option.some.inj (auditImports.kc6.symm.trans hf) |>.symm;obtain rfl:fn=Tryz.f8:=(Option.some.inj (Tryz.func8.symm.trans hfn)).symm
   exact⟨auditImports.kc3,fun j t ht=>by
    rw[Tryz.params8] at ht;have hm:t∈[22,22,22,3,3,3]:=by simpa using Array.mem_of_getElem? ht
    have hall:([22,22,22,3,3,3].all fun u=>!Tryz.prog.wantsStandIn u)=true:=auditImports.kc4;exact(show Tryz.prog.wantsStandIn t=false by simpa using List.all_eq_true.1 hall t hm)⟩)
  auditImports.kc5
end Go.Proofs.YtommnllbflbdmaaGreatDoor
