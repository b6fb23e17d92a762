/-
 'worldmintlaw..EscrowDeadline' returns true for every input,and each argument reads behind the call as it did before. No condition.
-/
import Derived.Test.YtlgpgjdggilkgaaGreatDoorEdbt
import Derived.Test.YtlgpgjdggilkgaaGreatDoorTie
import Derived.Test.YtlgpgjdggilkgaaGreatDoorEdFEscrowDeadline
set_option linter.all false
set_option maxHeartbeats 4000000
namespace Go.Proofs.YtlgpgjdggilkgaaGreatDoor.escrowDeadline
open Go.ChangeShapes Go.WideShapes Go.ChangeAt Go.RowKit Go.V
theorem sh:ownKnob Tryz.prog.godebug=none:=Θ
theorem CF:laidOutB Tryz.prog=true:=Θ
set_option maxRecDepth 100000 in
theorem ZR(os:Os)(H:Type)(enc:TypeId×Value→H) :
  ∃(w:World) (tape:Tape) (i:Input),w.os=os∧(w.forCall tape i).Shaped Tryz.checked.prog∧i.vars=[]∧Input.okWide Tryz.checked.prog (w.forCall tape i) .any w.heap.size 5 i ∧
   ((Rows.escrowDeadlineSpec.pre enc Tryz.checked.prog Tryz.f5 [] false (w.forCall tape i).memory i.args∧laidMetH Tryz.prog UG (w.forCall tape i).memory)∧sizedMet enc Tryz.checked.prog Tryz.f5 (OpenSpec.ofChange Rows.escrowDeadlineSpec) false (w.forCall tape i).memory i.args)∧({}:Assume).holds Tryz.checked.prog (lone (Frame.enter Tryz.checked.prog 5 i.args .normal) [] (w.forCall tape i)) :=
 ChangeSpec.witness_shaped (enc:=enc) (C:=Tryz.checked) (os:=os) (X:=fun w _=>laidMetH Tryz.prog UG w) false (World.doorLaid Tryz.prog 400 os) #[ae none 0 0,ae none 0 0,K 0,K 0] 8 rfl (World.shaped_of_RefB Θ Θ) Θ Θ Θ (Jd os _)
set_option maxRecDepth 100000 in
theorem lifted(os:Os)(started:os.Started)(H:Type)(enc:TypeId×Value→H) :
  ReturnsInHanded {} Tryz.checked os 5 .any (fun w args=>(Rows.escrowDeadlineSpec.pre enc Tryz.prog Tryz.f5 [] false w args∧laidMetH Tryz.prog UG w)∧sizedMet enc Tryz.prog Tryz.f5 (OpenSpec.ofChange Rows.escrowDeadlineSpec) false w args) (Rows.escrowDeadlineSpec.post enc Tryz.prog Tryz.f5 false true false false):=by
 refine returnsInHanded_of_change_and (C:=Tryz.checked) (X:=fun w _=>laidMetH Tryz.prog UG w) (fun _ _ _ hh h=>h.of_heap hh) sh started Θ Tryz.func5
  (ZR os H enc) ?_
 intro W base args ds gs before XR hW _ _ hL _;have hval:∀(j:Nat) t v,Tryz.f5.params[j]? = some t→args[j]? = some v→Value.okWide Tryz.prog W .any base t v:=XR;have VP:=hW;obtain⟨p,q,XS,hV,rfl,hfz,hnd⟩:=hW;have hA:DataW.TrodAll enc Tryz.prog W 0 (fun _=>true) true Tryz.f5.params.toList args.toList ds p:=XS;rw[Tryz.params5] at hA hval;obtain⟨v0,vs0,d0,ds0,p0,q0,hargs,rfl,rfl,h0,r0⟩:=trodAll_cons hA;obtain⟨v1,vs1,d1,ds1,p1,q1,rfl,rfl,rfl,h1,r1⟩:=trodAll_cons r0;obtain⟨v2,vs2,d2,ds2,p2,q2,rfl,rfl,rfl,h2,r2⟩:=trodAll_cons r1;obtain⟨v3,vs3,d3,ds3,p3,q3,rfl,rfl,rfl,h3,r3⟩:=trodAll_cons r2;obtain⟨rfl,rfl,rfl⟩:=trodAll_nil r3;obtain rfl:args=#[v0,v1,v2,v3]:=by cases args;simp_all
 obtain⟨rfl,rfl⟩:=trodVars_none hV;have ZS:=h0;obtain⟨Pk,ZT,Ov,rfl⟩:=okWide_slice Tryz.underlying22 (hval 0 22 v0 rfl rfl);obtain⟨WQ,ZU,hl0,hm0,hw0⟩:=Cy Tryz.underlying22 Tryz.underlying3 Θ h0;have b0:∀x∈WQ,-9223372036854775808≤x∧x≤9223372036854775807:=fun x hx=>tQ (hw0 x hx);have ZV:=h1;obtain⟨UO,ZW,ZX,rfl⟩:=okWide_slice Tryz.underlying22 (hval 1 22 v1 rfl rfl);obtain⟨WR,hi1,ZY,WS,hw1⟩:=Cy Tryz.underlying22 Tryz.underlying3 Θ h1;have b1:∀x∈WR,-9223372036854775808≤x∧x≤9223372036854775807:=fun x hx=>tQ (hw1 x hx);obtain⟨a2,rfl,rfl,rfl,w2⟩:=open_int Tryz.underlying3 (hval 2 3 v2 rfl rfl) h2;have b2 : -9223372036854775808≤a2∧a2≤9223372036854775807:=tQ w2;obtain⟨a3,rfl,rfl,rfl,w3⟩:=open_int Tryz.underlying3 (hval 3 3 v3 rfl rfl) h3;have b3 : -9223372036854775808≤a3∧a3≤9223372036854775807:=tQ w3;clear XS XR;simp only[aJ] at VP;have ZZ:∀x∈p0,x.block<W.heap.size:=fun x hx=>by have:=VP.lt x (by simp[hx]);simpa using this
 have Z0:∀x∈p1,x.block<W.heap.size:=fun x hx=>by have:=VP.lt x (by simp[hx]);simpa using this
 refine(Υ.law (ql (L:=[τ (Go.V.eU .i64) 1 Pk WQ,τ (Go.V.eU .i64) 1 UO WR]) Pk ZT Ov WQ hl0 (aO hm0.1 hm0.2) hm0.1 b0 UO ZW ZX WR ZY (aO WS.1 WS.2) WS.1 b1 a2 b2 a3 b3) W (MS.push (EL hL) (MS.push ZU (MS.push hi1 trivial)))).mono fun e W' ⟨he,hg⟩=>?_;subst he;exact⟨_,rfl,DE (pv:=[]) VP (fun _ _ _=>(trodAll_cons_mk (shut_bool Tryz.underlying4 _) trodAll_mk0)) (trodAll_cons_mk (Below.trod CF Θ (of_decide_eq_true Θ) ZS hg ZZ) (trodAll_cons_mk (Below.trod CF Θ (of_decide_eq_true Θ) ZV hg Z0) (trodAll_cons_mk (shut_int Tryz.underlying3 w2) (trodAll_cons_mk (shut_int Tryz.underlying3 w3) trodAll_mk0)))) rfl cg hg⟩
theorem over:Rows.escrowDeadlineRow.holds Tryz.pinned (OpenSpec.ofChange Rows.escrowDeadlineSpec) :=
 OpenClaim.holds_of_wide 5 Tryz.f5 rfl rfl rfl rfl rfl rfl rfl ⟨rfl,rfl,rfl,rfl,rfl⟩ rfl rfl rfl rfl rfl Θ Tryz.func5 closed
  (of_decide_eq_true Θ) (by unfold Func.isWrapper;first|(rw[if_pos (by decide +kernel)];kernel_rfl)|(rw[if_neg (by decide +kernel)];exact⟨rfl,rfl⟩))
  (fun os started H enc _=>lifted os started H enc)
end Go.Proofs.YtlgpgjdggilkgaaGreatDoor.escrowDeadline
namespace Go.Proofs.YtlgpgjdggilkgaaGreatDoor
theorem escrowDeadlineCard_holds:Rows.EscrowDeadlineCardSaid :=
 Claim7.holds_tied_plain_at .later [] [.data] true (true, "330b38cdc88eef3d1651c866e603503e3bb25d4836d15ad165312409055a2da8") true
  escrowDeadline.over (fun _ h=>by cases h) escrowDeadline.YF (fun _ h=>by cases h) escrowDeadline_row_tie rfl ⟨rfl,rfl⟩ escrowDeadline.YG rfl
  (fun f fn hf hfn=>by
   obtain rfl:f=5:=Option.some.inj (escrowDeadline.YK.symm.trans hf) |>.symm;obtain rfl:fn=Tryz.f5:=(Option.some.inj (Tryz.func5.symm.trans hfn)).symm
   exact⟨escrowDeadline.YH,fun j t ht=>by
    rw[Tryz.params5] at ht;have hm:t∈[22,22,3,3]:=by simpa using Array.mem_of_getElem? ht
    have hall:([22,22,3,3].all fun u=>!Tryz.prog.wantsStandIn u)=true:=escrowDeadline.YI;exact(show Tryz.prog.wantsStandIn t=false by simpa using List.all_eq_true.1 hall t hm)⟩)
  escrowDeadline.YJ
end Go.Proofs.YtlgpgjdggilkgaaGreatDoor
