/-
 'worldmintlaw..EscrowTogether' returns true for every input,and each argument reads behind the call as it did before. No condition.
-/
import Derived.Test.YtlgpgjdggilkgaaGreatDoorEtbs
import Derived.Test.YtlgpgjdggilkgaaGreatDoorEtbt
import Derived.Test.YtlgpgjdggilkgaaGreatDoorTie
import Derived.Test.YtlgpgjdggilkgaaGreatDoorEtFEscrowTogether
set_option linter.all false
set_option maxHeartbeats 4000000
namespace Go.Proofs.YtlgpgjdggilkgaaGreatDoor.escrowTogether
open Go.ChangeShapes Go.WideShapes Go.ChangeAt Go.RowKit Go.V
theorem jC:ownKnob Tryz.prog.godebug=none:=Ζ
theorem CI:laidOutB Tryz.prog=true:=Ζ
set_option maxRecDepth 100000 in
theorem Z7(os:Os)(H:Type)(enc:TypeId×Value→H) :
  ∃(w:World) (tape:Tape) (i:Input),w.os=os∧(w.forCall tape i).Shaped Tryz.checked.prog∧i.vars=[]∧Input.okWide Tryz.checked.prog (w.forCall tape i) .any w.heap.size 4 i ∧
   ((Rows.escrowTogetherSpec.pre enc Tryz.checked.prog Tryz.f4 [] false (w.forCall tape i).memory i.args∧laidMetH Tryz.prog UT (w.forCall tape i).memory)∧sizedMet enc Tryz.checked.prog Tryz.f4 (OpenSpec.ofChange Rows.escrowTogetherSpec) false (w.forCall tape i).memory i.args)∧({}:Assume).holds Tryz.checked.prog (lone (Frame.enter Tryz.checked.prog 4 i.args .normal) [] (w.forCall tape i)) :=
 ChangeSpec.witness_shaped (enc:=enc) (C:=Tryz.checked) (os:=os) (X:=fun w _=>laidMetH Tryz.prog UT w) false (World.doorLaid Tryz.prog 400 os) #[ah none 0 0,ah none 0 0,J 0] 8 rfl (World.shaped_of_RefB Ζ Ζ) Ζ Ζ Ζ (Jo os _)
set_option maxRecDepth 100000 in
theorem lifted(os:Os)(started:os.Started)(H:Type)(enc:TypeId×Value→H) :
  ReturnsInHanded {} Tryz.checked os 4 .any (fun w args=>(Rows.escrowTogetherSpec.pre enc Tryz.prog Tryz.f4 [] false w args∧laidMetH Tryz.prog UT w)∧sizedMet enc Tryz.prog Tryz.f4 (OpenSpec.ofChange Rows.escrowTogetherSpec) false w args) (Rows.escrowTogetherSpec.post enc Tryz.prog Tryz.f4 false true false false):=by
 refine returnsInHanded_of_change_and (C:=Tryz.checked) (X:=fun w _=>laidMetH Tryz.prog UT w) (fun _ _ _ hh h=>h.of_heap hh) jC started Ζ Tryz.func4
  (Z7 os H enc) ?_
 intro W base args ds gs before Yb hW _ _ hL _;have hval:∀(j:Nat) t v,Tryz.f4.params[j]? = some t→args[j]? = some v→Value.okWide Tryz.prog W .any base t v:=Yb;have We:=hW;obtain⟨p,q,Yc,hV,rfl,hfz,hnd⟩:=hW;have hA:DataW.TrodAll enc Tryz.prog W 0 (fun _=>true) true Tryz.f4.params.toList args.toList ds p:=Yc;rw[Tryz.params4] at hA hval;obtain⟨v0,vs0,d0,ds0,p0,q0,hargs,rfl,rfl,h0,r0⟩:=trodAll_cons hA;obtain⟨v1,vs1,d1,ds1,p1,q1,rfl,rfl,rfl,h1,r1⟩:=trodAll_cons r0;obtain⟨v2,vs2,d2,ds2,p2,q2,rfl,rfl,rfl,h2,r2⟩:=trodAll_cons r1;obtain⟨rfl,rfl,rfl⟩:=trodAll_nil r2;obtain rfl:args=#[v0,v1,v2]:=by cases args;simp_all
 obtain⟨rfl,rfl⟩:=trodVars_none hV;have Z8:=h0;obtain⟨PJ,Z9,OT,rfl⟩:=okWide_slice Tryz.underlying22 (hval 0 22 v0 rfl rfl);obtain⟨Xe,hi0,hl0,hm0,hw0⟩:=CA Tryz.underlying22 Tryz.underlying3 Ζ h0;have b0:∀x∈Xe,-9223372036854775808≤x∧x≤9223372036854775807:=fun x hx=>xH (hw0 x hx);have hk1:=h1;obtain⟨Vk,aaa,aab,rfl⟩:=okWide_slice Tryz.underlying22 (hval 1 22 v1 rfl rfl);obtain⟨Xf,hi1,hl1,Xg,hw1⟩:=CA Tryz.underlying22 Tryz.underlying3 Ζ h1;have b1:∀x∈Xf,-9223372036854775808≤x∧x≤9223372036854775807:=fun x hx=>xH (hw1 x hx);obtain⟨a2,rfl,rfl,rfl,w2⟩:=open_int Tryz.underlying3 (hval 2 3 v2 rfl rfl) h2;have b2 : -9223372036854775808≤a2∧a2≤9223372036854775807:=xH w2;clear Yc Yb;simp only[aI] at We;have aac:∀x∈p0,x.block<W.heap.size:=fun x hx=>by have:=We.lt x (by simp[hx]);simpa using this
 have aad:∀x∈p1,x.block<W.heap.size:=fun x hx=>by have:=We.lt x (by simp[hx]);simpa using this
 refine(Τ.law (qn (L:=[ξ (Go.V.dJ .i64) 1 PJ Xe,ξ (Go.V.dJ .i64) 1 Vk Xf]) PJ Z9 OT Xe hl0 (aO hm0.1 hm0.2) hm0.1 b0 Vk aaa aab Xf hl1 (aO Xg.1 Xg.2) Xg.1 b1 a2 b2) W (M6.push (ES hL) (M6.push hi0 (M6.push hi1 trivial)))).mono fun e W' ⟨he,hg⟩=>?_;subst he;exact⟨_,rfl,DG (pv:=[]) We (fun _ _ _=>(trodAll_cons_mk (shut_bool Tryz.underlying4 _) trodAll_mk0)) (trodAll_cons_mk (Below.trod CI Ζ (of_decide_eq_true Ζ) Z8 hg aac) (trodAll_cons_mk (Below.trod CI Ζ (of_decide_eq_true Ζ) hk1 hg aad) (trodAll_cons_mk (shut_int Tryz.underlying3 w2) trodAll_mk0))) rfl cj hg⟩
theorem over:Rows.escrowTogetherRow.holds Tryz.pinned (OpenSpec.ofChange Rows.escrowTogetherSpec) :=
 OpenClaim.holds_of_wide 4 Tryz.f4 rfl rfl rfl rfl rfl rfl rfl ⟨rfl,rfl,rfl,rfl,rfl⟩ rfl rfl rfl rfl rfl Ζ Tryz.func4 closed
  (of_decide_eq_true Ζ) (by unfold Func.isWrapper;first|(rw[if_pos (by decide +kernel)];kernel_rfl)|(rw[if_neg (by decide +kernel)];exact⟨rfl,rfl⟩))
  (fun os started H enc _=>lifted os started H enc)
end Go.Proofs.YtlgpgjdggilkgaaGreatDoor.escrowTogether
namespace Go.Proofs.YtlgpgjdggilkgaaGreatDoor
theorem escrowTogetherCard_holds:Rows.EscrowTogetherCardSaid :=
 Claim7.holds_tied_plain_at .later [] [.data] true (true, "330b38cdc88eef3d1651c866e603503e3bb25d4836d15ad165312409055a2da8") true
  escrowTogether.over (fun _ h=>by cases h) escrowTogether.YJ (fun _ h=>by cases h) escrowTogether_row_tie rfl ⟨rfl,rfl⟩ escrowTogether.YK rfl
  (fun f fn hf hfn=>by
   obtain rfl:f=4:=Option.some.inj (escrowTogether.YO.symm.trans hf) |>.symm;obtain rfl:fn=Tryz.f4:=(Option.some.inj (Tryz.func4.symm.trans hfn)).symm
   exact⟨escrowTogether.YL,fun j t ht=>by
    rw[Tryz.params4] at ht;have hm:t∈[22,22,3]:=by simpa using Array.mem_of_getElem? ht
    have hall:([22,22,3].all fun u=>!Tryz.prog.wantsStandIn u)=true:=escrowTogether.YM;exact(show Tryz.prog.wantsStandIn t=false by simpa using List.all_eq_true.1 hall t hm)⟩)
  escrowTogether.YN
end Go.Proofs.YtlgpgjdggilkgaaGreatDoor
