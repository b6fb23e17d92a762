/-
 'worldmintlaw..EscrowConserves' returns true for every input,and each argument reads behind the call as it did before. No condition.
-/
import Derived.Test.YtlgpgjdggilkgaaGreatDoorEcbu
import Derived.Test.YtlgpgjdggilkgaaGreatDoorEcbv
import Derived.Test.YtlgpgjdggilkgaaGreatDoorTie
import Derived.Test.YtlgpgjdggilkgaaGreatDoorEcFEscrowConserves
set_option linter.all false
set_option maxHeartbeats 4000000
namespace Go.Proofs.YtlgpgjdggilkgaaGreatDoor.escrowConserves
open Go.ChangeShapes Go.WideShapes Go.ChangeAt Go.RowKit Go.V
theorem own:ownKnob Tryz.prog.godebug=none:=krStd0
theorem BC:laidOutB Tryz.prog=true:=krStd0
set_option maxRecDepth 100000 in
theorem wit(os:Os)(H:Type)(enc:TypeId×Value→H) :
  ∃(w:World) (tape:Tape) (i:Input),w.os=os∧(w.forCall tape i).Shaped Tryz.checked.prog∧i.vars=[]∧Input.okWide Tryz.checked.prog (w.forCall tape i) .any w.heap.size 3 i ∧
   ((Rows.escrowConservesSpec.pre enc Tryz.checked.prog Tryz.f3 [] false (w.forCall tape i).memory i.args∧laidMetH Tryz.prog laidK (w.forCall tape i).memory)∧sizedMet enc Tryz.checked.prog Tryz.f3 (OpenSpec.ofChange Rows.escrowConservesSpec) false (w.forCall tape i).memory i.args)∧({}:Assume).holds Tryz.checked.prog (lone (Frame.enter Tryz.checked.prog 3 i.args .normal) [] (w.forCall tape i)) :=
 ChangeSpec.witness_shaped (enc:=enc) (C:=Tryz.checked) (os:=os) (X:=fun w _=>laidMetH Tryz.prog laidK w) false (World.doorLaid Tryz.prog 400 os) #[ag none 0 0,ag none 0 0,ac 0] 8 rfl (World.shaped_of_RefB krStd0 krStd0) krStd0 krStd0 krStd0 (Hu os _)
set_option maxRecDepth 100000 in
theorem lifted(os:Os)(started:os.Started)(H:Type)(enc:TypeId×Value→H) :
  ReturnsInHanded {} Tryz.checked os 3 .any (fun w args=>(Rows.escrowConservesSpec.pre enc Tryz.prog Tryz.f3 [] false w args∧laidMetH Tryz.prog laidK w)∧sizedMet enc Tryz.prog Tryz.f3 (OpenSpec.ofChange Rows.escrowConservesSpec) false w args) (Rows.escrowConservesSpec.post enc Tryz.prog Tryz.f3 false true false false):=by
 refine returnsInHanded_of_change_and (C:=Tryz.checked) (X:=fun w _=>laidMetH Tryz.prog laidK w) (fun _ _ _ hh h=>h.of_heap hh) own started krStd0 Tryz.func3
  (wit os H enc) ?_
 intro W base args ds gs before hval0 hW _ _ hL _;have hval:∀(j:Nat) t v,Tryz.f3.params[j]? = some t→args[j]? = some v→Value.okWide Tryz.prog W .any base t v:=hval0;have hW':=hW;obtain⟨p,q,hA0,hV,rfl,hfz,hnd⟩:=hW;have hA:DataW.TrodAll enc Tryz.prog W 0 (fun _=>true) true Tryz.f3.params.toList args.toList ds p:=hA0;rw[Tryz.params3] at hA hval;obtain⟨v0,vs0,d0,ds0,p0,q0,hargs,rfl,rfl,h0,r0⟩:=trodAll_cons hA;obtain⟨v1,vs1,d1,ds1,p1,q1,rfl,rfl,rfl,h1,r1⟩:=trodAll_cons r0;obtain⟨v2,vs2,d2,ds2,p2,q2,rfl,rfl,rfl,h2,r2⟩:=trodAll_cons r1;obtain⟨rfl,rfl,rfl⟩:=trodAll_nil r2;obtain rfl:args=#[v0,v1,v2]:=by cases args;simp_all
 obtain⟨rfl,rfl⟩:=trodVars_none hV;have hk0:=h0;obtain⟨ad0,len0,cap0,rfl⟩:=okWide_slice Tryz.underlying22 (hval 0 22 v0 rfl rfl);obtain⟨xs0,hi0,hl0,hm0,hw0⟩:=Bv Tryz.underlying22 Tryz.underlying3 krStd0 h0;have b0:∀x∈xs0,-9223372036854775808≤x∧x≤9223372036854775807:=fun x hx=>ww (hw0 x hx);have hk1:=h1;obtain⟨ad1,len1,cap1,rfl⟩:=okWide_slice Tryz.underlying22 (hval 1 22 v1 rfl rfl);obtain⟨xs1,hi1,hl1,hm1,hw1⟩:=Bv Tryz.underlying22 Tryz.underlying3 krStd0 h1;have b1:∀x∈xs1,-9223372036854775808≤x∧x≤9223372036854775807:=fun x hx=>ww (hw1 x hx);obtain⟨a2,rfl,rfl,rfl,w2⟩:=open_int Tryz.underlying3 (hval 2 3 v2 rfl rfl) h2;have b2 : -9223372036854775808≤a2∧a2≤9223372036854775807:=ww w2;clear hA0 hval0;simp only[aH] at hW';have hlt0:∀x∈p0,x.block<W.heap.size:=fun x hx=>by have:=hW'.lt x (by simp[hx]);simpa using this
 have hlt1:∀x∈p1,x.block<W.heap.size:=fun x hx=>by have:=hW'.lt x (by simp[hx]);simpa using this
 refine(Tri.law (pm (L:=[isl (Go.V.encZ .i64) 1 ad0 xs0,isl (Go.V.encZ .i64) 1 ad1 xs1]) ad0 len0 cap0 xs0 hl0 (aP hm0.1 hm0.2) hm0.1 b0 ad1 len1 cap1 xs1 hl1 (aP hm1.1 hm1.2) hm1.1 b1 a2 b2) W (Stars.push (DK hL) (Stars.push hi0 (Stars.push hi1 trivial)))).mono fun e W' ⟨he,hg⟩=>?_;subst he;exact⟨_,rfl,Cx (pv:=[]) hW' (fun _ _ _=>(trodAll_cons_mk (shut_bool Tryz.underlying4 _) trodAll_mk0)) (trodAll_cons_mk (Below.trod BC krStd0 (of_decide_eq_true krStd0) hk0 hg hlt0) (trodAll_cons_mk (Below.trod BC krStd0 (of_decide_eq_true krStd0) hk1 hg hlt1) (trodAll_cons_mk (shut_int Tryz.underlying3 w2) trodAll_mk0))) rfl cc hg⟩
theorem over:Rows.escrowConservesRow.holds Tryz.pinned (OpenSpec.ofChange Rows.escrowConservesSpec) :=
 OpenClaim.holds_of_wide 3 Tryz.f3 rfl rfl rfl rfl rfl rfl rfl ⟨rfl,rfl,rfl,rfl,rfl⟩ rfl rfl rfl rfl rfl krStd0 Tryz.func3 closed
  (of_decide_eq_true krStd0) (by unfold Func.isWrapper;first|(rw[if_pos (by decide +kernel)];kernel_rfl)|(rw[if_neg (by decide +kernel)];exact⟨rfl,rfl⟩))
  (fun os started H enc _=>lifted os started H enc)
end Go.Proofs.YtlgpgjdggilkgaaGreatDoor.escrowConserves
namespace Go.Proofs.YtlgpgjdggilkgaaGreatDoor
theorem escrowConservesCard_holds:Rows.EscrowConservesCardSaid :=
 Claim7.holds_tied_plain_at .later [] [.data] true (true, "330b38cdc88eef3d1651c866e603503e3bb25d4836d15ad165312409055a2da8") true
  escrowConserves.over (fun _ h=>by cases h) escrowConserves.kc1 (fun _ h=>by cases h) escrowConserves_row_tie rfl ⟨rfl,rfl⟩ escrowConserves.kc2 rfl
  (fun f fn hf hfn=>by
   obtain rfl:f=3:=Option.some.inj (escrowConserves.kc6.symm.trans hf) |>.symm;obtain rfl:fn=Tryz.f3:=(Option.some.inj (Tryz.func3.symm.trans hfn)).symm
   exact⟨escrowConserves.kc3,fun j t ht=>by
    rw[Tryz.params3] at ht;have hm:t∈[22,22,3]:=by simpa using Array.mem_of_getElem? ht
    have hall:([22,22,3].all fun u=>!Tryz.prog.wantsStandIn u)=true:=escrowConserves.kc4;exact(show Tryz.prog.wantsStandIn t=false by simpa using List.all_eq_true.1 hall t hm)⟩)
  escrowConserves.kc5
end Go.Proofs.YtlgpgjdggilkgaaGreatDoor
