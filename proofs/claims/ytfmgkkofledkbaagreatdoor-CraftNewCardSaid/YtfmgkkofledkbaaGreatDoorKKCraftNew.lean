/-
 'worldmintlaw..CraftNew' returns true for every input,and each argument reads behind the call as it did before. No condition.
-/
import Derived.Test.YtfmgkkofledkbaaGreatDoorRows
import Derived.Test.YtfmgkkofledkbaaGreatDoorGCraftNewcd
import Derived.Test.YtfmgkkofledkbaaGreatDoorGCraftNewb
import Derived.Test.YtfmgkkofledkbaaGreatDoorSCraftNewNC
import Derived.Test.YtfmgkkofledkbaaGreatDoorCards
import Derived.Test.YtfmgkkofledkbaaGreatDoorTie
import Derived.SevenTiedAt
import Derived.Test.YtfmgkkofledkbaaGreatDoorSCraftNewFCraftNew
set_option linter.all false
set_option maxHeartbeats 4000000
namespace Go.Proofs.YtfmgkkofledkbaaGreatDoor.craftNew
open Go.ChangeShapes Go.WideShapes Go.ChangeAt Go.RowKit Go.V
theorem own:ownKnob Tryz.prog.godebug=none:=by kernel_rfl
theorem sB:laidOutB Tryz.prog=true:=by kernel_rfl
set_option maxRecDepth 100000 in
theorem wit (os:Os) (H:Type) (enc:TypeId×Value→H) :
  ∃ (w:World) (tape:Tape) (i:Input),w.os=os∧(w.forCall tape i).Shaped Tryz.checked.prog∧i.vars=[]∧Input.okWide Tryz.checked.prog (w.forCall tape i) .any w.heap.size 8 i ∧
   ((Rows.craftNewSpec.pre enc Tryz.checked.prog Tryz.f8 [] false (w.forCall tape i).memory i.args∧laidMetH Tryz.prog laidK (w.forCall tape i).memory)∧sizedMet enc Tryz.checked.prog Tryz.f8 (OpenSpec.ofChange Rows.craftNewSpec) false (w.forCall tape i).memory i.args)∧({}:Assume).holds Tryz.checked.prog (lone (Frame.enter Tryz.checked.prog 8 i.args .normal) [] (w.forCall tape i)) :=
 ChangeSpec.witness_shaped (enc:=enc) (C:=Tryz.checked) (os:=os) (X:=fun w _=>laidMetH Tryz.prog laidK w) false (World.doorLaid Tryz.prog 400 os) #[.slice none 0 0,.bool false,.int .i64 0,.slice none 0 0,.slice none 0 0] 8 rfl (World.shaped_of_RefB aj aj) aj aj aj (El os _)
set_option maxRecDepth 100000 in
theorem lifted (os:Os) (started:os.Started) (H:Type) (enc:TypeId×Value→H) :
  ReturnsInHanded {} Tryz.checked os 8 .any (fun w args=>(Rows.craftNewSpec.pre enc Tryz.prog Tryz.f8 [] false w args∧laidMetH Tryz.prog laidK w)∧sizedMet enc Tryz.prog Tryz.f8 (OpenSpec.ofChange Rows.craftNewSpec) false w args) (Rows.craftNewSpec.post enc Tryz.prog Tryz.f8 false true false false):=by
 refine returnsInHanded_of_change_and (C:=Tryz.checked) (X:=fun w _=>laidMetH Tryz.prog laidK w) (fun _ _ _ hh h=>h.of_heap hh) own started aj Tryz.func8
  (wit os H enc) ?_
 intro W base args ds gs before hval0 hW _ _ hL _
 have hval:∀ (j:Nat) t v,Tryz.f8.params[j]? = some t→args[j]? = some v→Value.okWide Tryz.prog W .any base t v:=hval0
 have hW':=hW
 obtain ⟨p,q,hA0,hV,rfl,hfz,hnd⟩:=hW
 have hA:DataW.TrodAll enc Tryz.prog W 0 (fun _=>true) true Tryz.f8.params.toList args.toList ds p:=hA0
 rw [Tryz.params8] at hA hval
 obtain ⟨v0,vs0,d0,ds0,p0,q0,hargs,rfl,rfl,h0,r0⟩:=trodAll_cons hA
 obtain ⟨v1,vs1,d1,ds1,p1,q1,rfl,rfl,rfl,h1,r1⟩:=trodAll_cons r0
 obtain ⟨v2,vs2,d2,ds2,p2,q2,rfl,rfl,rfl,h2,r2⟩:=trodAll_cons r1
 obtain ⟨v3,vs3,d3,ds3,p3,q3,rfl,rfl,rfl,h3,r3⟩:=trodAll_cons r2
 obtain ⟨v4,vs4,d4,ds4,p4,q4,rfl,rfl,rfl,h4,r4⟩:=trodAll_cons r3
 obtain ⟨rfl,rfl,rfl⟩:=trodAll_nil r4
 obtain rfl:args=#[v0,v1,v2,v3,v4]:=by cases args;simp_all
 obtain ⟨rfl,rfl⟩:=trodVars_none hV
 have hk0:=h0
 obtain ⟨ad0,len0,cap0,rfl⟩:=okWide_slice Tryz.underlying48 (hval 0 48 v0 rfl rfl)
 obtain ⟨xs0,hi0,hl0,hm0,hw0⟩:=su Tryz.underlying48 Tryz.underlying5 aj h0
 have b0:∀ x∈xs0,0≤x∧x≤255:=fun x hx=>Gj (hw0 x hx)
 obtain ⟨a1,rfl,rfl,rfl⟩:=open_bool Tryz.underlying4 (hval 1 4 v1 rfl rfl) h1
 obtain ⟨a2,rfl,rfl,rfl,w2⟩:=open_int Tryz.underlying3 (hval 2 3 v2 rfl rfl) h2
 have b2 : -9223372036854775808≤a2∧a2≤9223372036854775807:=uy w2
 have hk3:=h3
 obtain ⟨ad3,len3,cap3,rfl⟩:=okWide_slice Tryz.underlying34 (hval 3 34 v3 rfl rfl)
 obtain ⟨xs3,hi3,hl3,hm3,hw3⟩:=su Tryz.underlying34 Tryz.underlying3 aj h3
 have b3:∀ x∈xs3,-9223372036854775808≤x∧x≤9223372036854775807:=fun x hx=>uy (hw3 x hx)
 have hk4:=h4
 obtain ⟨ad4,len4,cap4,rfl⟩:=okWide_slice Tryz.underlying34 (hval 4 34 v4 rfl rfl)
 obtain ⟨xs4,hi4,hl4,hm4,hw4⟩:=su Tryz.underlying34 Tryz.underlying3 aj h4
 have b4:∀ x∈xs4,-9223372036854775808≤x∧x≤9223372036854775807:=fun x hx=>uy (hw4 x hx)
 clear hA0 hval0
 simp only [bR] at hW'
 have hlt0:∀ x∈p0,x.block<W.heap.size:=fun x hx=>by have:=hW'.lt x (by simp [hx]);simpa using this
 have hlt3:∀ x∈p3,x.block<W.heap.size:=fun x hx=>by have:=hW'.lt x (by simp [hx]);simpa using this
 have hlt4:∀ x∈p4,x.block<W.heap.size:=fun x hx=>by have:=hW'.lt x (by simp [hx]);simpa using this
 refine (Tri.law (ud (L:=[isl (Go.V.encZ .u8) 1 ad0 xs0,isl (Go.V.encZ .i64) 1 ad3 xs3,isl (Go.V.encZ .i64) 1 ad4 xs4]) ad0 len0 cap0 xs0 hl0 (cM hm0.1 hm0.2) b0 a1 a2 b2 ad3 len3 cap3 xs3 hl3 (cM hm3.1 hm3.2) b3 ad4 len4 cap4 xs4 hl4 (cM hm4.1 hm4.2) b4) W (Stars.push (Bn hL) (Stars.push hi0 (Stars.push hi3 (Stars.push hi4 trivial))))).mono fun e W' ⟨he,hg⟩=>?_
 subst he
 exact ⟨_,rfl,Aa (pv:=[]) hW' (fun _ _ _=>(trodAll_cons_mk (shut_bool Tryz.underlying4 _) trodAll_mk0)) (trodAll_cons_mk (Below.trod sB aj (of_decide_eq_true aj) hk0 hg hlt0) (trodAll_cons_mk (shut_bool Tryz.underlying4 _) (trodAll_cons_mk (shut_int Tryz.underlying3 w2) (trodAll_cons_mk (Below.trod sB aj (of_decide_eq_true aj) hk3 hg hlt3) (trodAll_cons_mk (Below.trod sB aj (of_decide_eq_true aj) hk4 hg hlt4) trodAll_mk0))))) rfl (by simp) hg⟩
theorem over:Rows.craftNewRow.holds Tryz.pinned (OpenSpec.ofChange Rows.craftNewSpec) :=
 OpenClaim.holds_of_wide 8 Tryz.f8 rfl rfl rfl rfl rfl rfl rfl ⟨rfl,rfl,rfl,rfl,rfl⟩ rfl rfl rfl rfl rfl aj Tryz.func8 closed
  (of_decide_eq_true aj) (by unfold Func.isWrapper;first|(rw [if_pos (by decide +kernel)];kernel_rfl)|(rw [if_neg (by decide +kernel)];exact ⟨rfl,rfl⟩))
  (fun os started H enc _=>lifted os started H enc)
end Go.Proofs.YtfmgkkofledkbaaGreatDoor.craftNew
namespace Go.Proofs.YtfmgkkofledkbaaGreatDoor
theorem craftNewCard_holds:Rows.CraftNewCardSaid :=
 Claim7.holds_tied_plain_at .later [] [.data, .data, .data, .data] true (true, "b0b1b5c118e6c71c2ce60b1f46d354eb23e09d283d0c5d5e355904ff5a0a3c54") true
  craftNew.over (fun _ h=>by cases h) craftNew.kc1 (fun _ h=>by cases h) craftNew_row_tie rfl ⟨rfl,rfl⟩ craftNew.kc2 rfl
  (fun f fn hf hfn=>by
   obtain rfl:f=8:=Option.some.inj (craftNew.kc6.symm.trans hf) |>.symm
   obtain rfl:fn=Tryz.f8:=(Option.some.inj (Tryz.func8.symm.trans hfn)).symm
   exact ⟨craftNew.kc3,fun j t ht=>by
    rw [Tryz.params8] at ht
    have hm:t∈[48,4,3,34,34]:=by simpa using Array.mem_of_getElem? ht
    have hall:([48,4,3,34,34].all fun u=>!Tryz.prog.wantsStandIn u)=true:=craftNew.kc4
    exact (show Tryz.prog.wantsStandIn t=false by simpa using List.all_eq_true.1 hall t hm)⟩)
  craftNew.kc5
end Go.Proofs.YtfmgkkofledkbaaGreatDoor
