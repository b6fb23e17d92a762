/-
 'worldmintlaw..EscrowRepeats' returns true for every input,and each argument reads behind the call as it did before. No condition.
-/
import Derived.Test.YtlgpgjdggilkgaaGreatDoorErbu
import Derived.Test.YtlgpgjdggilkgaaGreatDoorErbv
import Derived.Test.YtlgpgjdggilkgaaGreatDoorTie
import Derived.Test.YtlgpgjdggilkgaaGreatDoorErFEscrowRepeats
set_option linter.all false
set_option maxHeartbeats 4000000
namespace Go.Proofs.YtlgpgjdggilkgaaGreatDoor.escrowRepeats
open Go.ChangeShapes Go.WideShapes Go.ChangeAt Go.RowKit Go.V
theorem h1:ownKnob Tryz.prog.godebug=none:=Γ
theorem zI:laidOutB Tryz.prog=true:=Γ
set_option maxRecDepth 100000 in
theorem Ul(os:Os)(H:Type)(enc:TypeId×Value→H) :
  ∃(w:World) (tape:Tape) (i:Input),w.os=os∧(w.forCall tape i).Shaped Tryz.checked.prog∧i.vars=[]∧Input.okWide Tryz.checked.prog (w.forCall tape i) .any w.heap.size 7 i ∧
   ((Rows.escrowRepeatsSpec.pre enc Tryz.checked.prog Tryz.f7 [] false (w.forCall tape i).memory i.args∧laidMetH Tryz.prog Pr (w.forCall tape i).memory)∧sizedMet enc Tryz.checked.prog Tryz.f7 (OpenSpec.ofChange Rows.escrowRepeatsSpec) false (w.forCall tape i).memory i.args)∧({}:Assume).holds Tryz.checked.prog (lone (Frame.enter Tryz.checked.prog 7 i.args .normal) [] (w.forCall tape i)) :=
 ChangeSpec.witness_shaped (enc:=enc) (C:=Tryz.checked) (os:=os) (X:=fun w _=>laidMetH Tryz.prog Pr w) false (World.doorLaid Tryz.prog 400 os) #[ae none 0 0,ae none 0 0,E 0,E 0] 8 rfl (World.shaped_of_RefB Γ Γ) Γ Γ Γ (Fq os _)
set_option maxRecDepth 100000 in
theorem lifted(os:Os)(started:os.Started)(H:Type)(enc:TypeId×Value→H) :
  ReturnsInHanded {} Tryz.checked os 7 .any (fun w args=>(Rows.escrowRepeatsSpec.pre enc Tryz.prog Tryz.f7 [] false w args∧laidMetH Tryz.prog Pr w)∧sizedMet enc Tryz.prog Tryz.f7 (OpenSpec.ofChange Rows.escrowRepeatsSpec) false w args) (Rows.escrowRepeatsSpec.post enc Tryz.prog Tryz.f7 false true false false):=by
 refine returnsInHanded_of_change_and (C:=Tryz.checked) (X:=fun w _=>laidMetH Tryz.prog Pr w) (fun _ _ _ hh h=>h.of_heap hh) h1 started Γ Tryz.func7
  (Ul os H enc) ?_
 intro W base args ds gs before Sz hW _ _ hL _;have hval:∀(j:Nat) t v,Tryz.f7.params[j]? = some t→args[j]? = some v→Value.okWide Tryz.prog W .any base t v:=Sz;have QM:=hW;obtain⟨p,q,SA,hV,rfl,hfz,Ya⟩:=hW;have hA:DataW.TrodAll enc Tryz.prog W 0 (fun _=>true) true Tryz.f7.params.toList args.toList ds p:=SA;rw[Tryz.params7] at hA hval;obtain⟨v0,Yb,d0,Yc,p0,q0,hargs,rfl,rfl,h0,r0⟩:=trodAll_cons hA;obtain⟨v1,Yd,d1,Ye,p1,q1,rfl,rfl,rfl,h1,r1⟩:=trodAll_cons r0;obtain⟨v2,Yf,d2,Yg,p2,q2,rfl,rfl,rfl,h2,r2⟩:=trodAll_cons r1;obtain⟨v3,Yh,d3,Yi,p3,q3,rfl,rfl,rfl,h3,r3⟩:=trodAll_cons r2;obtain⟨rfl,rfl,rfl⟩:=trodAll_nil r3;obtain rfl:args=#[v0,v1,v2,v3]:=by cases args;simp_all
 obtain⟨rfl,rfl⟩:=trodVars_none hV;have Um:=h0;obtain⟨Kv,UA,JV,rfl⟩:=okWide_slice Tryz.underlying22 (hval 0 22 v0 rfl rfl);obtain⟨RB,UB,hl0,hm0,hw0⟩:=zy Tryz.underlying22 Tryz.underlying3 Γ h0;have b0:∀x∈RB,-9223372036854775808≤x∧x≤9223372036854775807:=fun x hx=>qU (hw0 x hx);have UC:=h1;obtain⟨PZ,UD,UE,rfl⟩:=okWide_slice Tryz.underlying22 (hval 1 22 v1 rfl rfl);obtain⟨RC,hi1,UF,RD,hw1⟩:=zy Tryz.underlying22 Tryz.underlying3 Γ h1;have b1:∀x∈RC,-9223372036854775808≤x∧x≤9223372036854775807:=fun x hx=>qU (hw1 x hx);obtain⟨a2,rfl,rfl,rfl,w2⟩:=open_int Tryz.underlying3 (hval 2 3 v2 rfl rfl) h2;have b2 : -9223372036854775808≤a2∧a2≤9223372036854775807:=qU w2;obtain⟨a3,rfl,rfl,rfl,w3⟩:=open_int Tryz.underlying3 (hval 3 3 v3 rfl rfl) h3;have b3 : -9223372036854775808≤a3∧a3≤9223372036854775807:=qU w3;clear SA Sz;simp only[aJ] at QM;have UG:∀x∈p0,x.block<W.heap.size:=fun x hx=>by have:=QM.lt x (by simp[hx]);simpa using this
 have UH:∀x∈p1,x.block<W.heap.size:=fun x hx=>by have:=QM.lt x (by simp[hx]);simpa using this
 refine(Λ.law (oZ (L:=[ε (Go.V.a0 .i64) 1 Kv RB,ε (Go.V.a0 .i64) 1 PZ RC]) Kv UA JV RB hl0 (aQ hm0.1 hm0.2) hm0.1 b0 PZ UD UE RC UF (aQ RD.1 RD.2) RD.1 b1 a2 b2 a3 b3) W (IC.push (BN hL) (IC.push UB (IC.push hi1 trivial)))).mono fun e W' ⟨he,hg⟩=>?_;subst he;exact⟨_,rfl,Ay (pv:=[]) QM (fun _ _ _=>(trodAll_cons_mk (shut_bool Tryz.underlying4 _) trodAll_mk0)) (trodAll_cons_mk (Below.trod zI Γ (of_decide_eq_true Γ) Um hg UG) (trodAll_cons_mk (Below.trod zI Γ (of_decide_eq_true Γ) UC hg UH) (trodAll_cons_mk (shut_int Tryz.underlying3 w2) (trodAll_cons_mk (shut_int Tryz.underlying3 w3) trodAll_mk0)))) rfl bR hg⟩
theorem over:Rows.escrowRepeatsRow.holds Tryz.pinned (OpenSpec.ofChange Rows.escrowRepeatsSpec) :=
 OpenClaim.holds_of_wide 7 Tryz.f7 rfl rfl rfl rfl rfl rfl rfl ⟨rfl,rfl,rfl,rfl,rfl⟩ rfl rfl rfl rfl rfl Γ Tryz.func7 closed
  (of_decide_eq_true Γ) (by unfold Func.isWrapper;first|(rw[if_pos (by decide +kernel)];kernel_rfl)|(rw[if_neg (by decide +kernel)];exact⟨rfl,rfl⟩))
  (fun os started H enc _=>lifted os started H enc)
end Go.Proofs.YtlgpgjdggilkgaaGreatDoor.escrowRepeats
namespace Go.Proofs.YtlgpgjdggilkgaaGreatDoor
theorem escrowRepeatsCard_holds:Rows.EscrowRepeatsCardSaid :=
 Claim7.holds_tied_plain_at .later [] [.data] true (true, "330b38cdc88eef3d1651c866e603503e3bb25d4836d15ad165312409055a2da8") true
  escrowRepeats.over (fun _ h=>by cases h) escrowRepeats.Tf (fun _ h=>by cases h) escrowRepeats_row_tie rfl ⟨rfl,rfl⟩ escrowRepeats.Tg rfl
  (fun f fn hf hfn=>by
   obtain rfl:f=7:=Option.some.inj (escrowRepeats.Tl.symm.trans hf) |>.symm;obtain rfl:fn=Tryz.f7:=(Option.some.inj (Tryz.func7.symm.trans hfn)).symm
   exact⟨escrowRepeats.Ti,fun j t ht=>by
    rw[Tryz.params7] at ht;have hm:t∈[22,22,3,3]:=by simpa using Array.mem_of_getElem? ht
    have hall:([22,22,3,3].all fun u=>!Tryz.prog.wantsStandIn u)=true:=escrowRepeats.Tj;exact(show Tryz.prog.wantsStandIn t=false by simpa using List.all_eq_true.1 hall t hm)⟩)
  escrowRepeats.Tk
end Go.Proofs.YtlgpgjdggilkgaaGreatDoor
