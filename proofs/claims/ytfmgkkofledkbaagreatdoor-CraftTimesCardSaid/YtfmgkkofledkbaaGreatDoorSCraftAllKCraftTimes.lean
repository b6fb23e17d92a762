/-
 'worldmintlaw..CraftTimes' returns true for every input,and each argument reads behind the call as it did before. No condition.
-/
import Derived.Test.YtfmgkkofledkbaaGreatDoorRows
import Derived.Test.YtfmgkkofledkbaaGreatDoorGCraftAllce
import Derived.Test.YtfmgkkofledkbaaGreatDoorGCraftAllb
import Derived.Test.YtfmgkkofledkbaaGreatDoorSCraftAllNC
import Derived.Test.YtfmgkkofledkbaaGreatDoorCards
import Derived.Test.YtfmgkkofledkbaaGreatDoorTie
import Derived.SevenTiedAt
import Derived.Test.YtfmgkkofledkbaaGreatDoorSCraftAllFCraftTimes
set_option linter.all false
set_option maxHeartbeats 4000000
namespace Go.Proofs.YtfmgkkofledkbaaGreatDoor.craftTimes
open Go.ChangeShapes Go.WideShapes Go.ChangeAt Go.RowKit Go.V
theorem own:ownKnob Tryz.prog.godebug=none:=by kernel_rfl
theorem laidOut:laidOutB Tryz.prog=true:=by kernel_rfl
set_option maxRecDepth 100000 in
theorem wit (os:Os) (H:Type) (enc:TypeId×Value→H) :
  ∃ (w:World) (tape:Tape) (i:Input),w.os=os∧(w.forCall tape i).Shaped Tryz.checked.prog∧i.vars=[]∧Input.okWide Tryz.checked.prog (w.forCall tape i) .any w.heap.size 4 i ∧
   ((Rows.craftTimesSpec.pre enc Tryz.checked.prog Tryz.f4 [] false (w.forCall tape i).memory i.args∧laidMetH Tryz.prog laidK (w.forCall tape i).memory)∧sizedMet enc Tryz.checked.prog Tryz.f4 (OpenSpec.ofChange Rows.craftTimesSpec) false (w.forCall tape i).memory i.args)∧({}:Assume).holds Tryz.checked.prog (lone (Frame.enter Tryz.checked.prog 4 i.args .normal) [] (w.forCall tape i)) :=
 ChangeSpec.witness_shaped (enc:=enc) (C:=Tryz.checked) (os:=os) (X:=fun w _=>laidMetH Tryz.prog laidK w) false (World.doorLaid Tryz.prog 400 os) #[.int .i64 0,.slice none 0 0] 8 rfl (World.shaped_of_RefB ah ah) ah ah ah (kC os _)
set_option maxRecDepth 100000 in
theorem lifted (os:Os) (started:os.Started) (H:Type) (enc:TypeId×Value→H) :
  ReturnsInHanded {} Tryz.checked os 4 .any (fun w args=>(Rows.craftTimesSpec.pre enc Tryz.prog Tryz.f4 [] false w args∧laidMetH Tryz.prog laidK w)∧sizedMet enc Tryz.prog Tryz.f4 (OpenSpec.ofChange Rows.craftTimesSpec) false w args) (Rows.craftTimesSpec.post enc Tryz.prog Tryz.f4 false true false false):=by
 refine returnsInHanded_of_change_and (C:=Tryz.checked) (X:=fun w _=>laidMetH Tryz.prog laidK w) (fun _ _ _ hh h=>h.of_heap hh) own started ah Tryz.func4
  (wit os H enc) ?_
 intro W base args ds gs before hval0 hW _ _ hL _
 have hval:∀ (j:Nat) t v,Tryz.f4.params[j]? = some t→args[j]? = some v→Value.okWide Tryz.prog W .any base t v:=hval0
 have hW':=hW
 obtain ⟨p,q,hA0,hV,rfl,hfz,hnd⟩:=hW
 have hA:DataW.TrodAll enc Tryz.prog W 0 (fun _=>true) true Tryz.f4.params.toList args.toList ds p:=hA0
 rw [Tryz.params4] at hA hval
 obtain ⟨v0,vs0,d0,ds0,p0,q0,hargs,rfl,rfl,h0,r0⟩:=trodAll_cons hA
 obtain ⟨v1,vs1,d1,ds1,p1,q1,rfl,rfl,rfl,h1,r1⟩:=trodAll_cons r0
 obtain ⟨rfl,rfl,rfl⟩:=trodAll_nil r1
 obtain rfl:args=#[v0,v1]:=by cases args;simp_all
 obtain ⟨rfl,rfl⟩:=trodVars_none hV
 obtain ⟨a0,rfl,rfl,rfl,w0⟩:=open_int Tryz.underlying3 (hval 0 3 v0 rfl rfl) h0
 have b0 : -9223372036854775808≤a0∧a0≤9223372036854775807:=fQ w0
 have hk1:=h1
 obtain ⟨ad1,len1,cap1,rfl⟩:=okWide_slice Tryz.underlying34 (hval 1 34 v1 rfl rfl)
 obtain ⟨xs1,hi1,hl1,hm1,hw1⟩:=lD Tryz.underlying34 Tryz.underlying3 ah h1
 have b1:∀ x∈xs1,-9223372036854775808≤x∧x≤9223372036854775807:=fun x hx=>fQ (hw1 x hx)
 clear hA0 hval0
 simp only [List.append_nil,List.nil_append] at hW'
 have hlt1:∀ x∈p1,x.block<W.heap.size:=fun x hx=>by have:=hW'.lt x (by simp [hx]);simpa using this
 refine (Tri.law (ri (L:=[isl (Go.V.encZ .i64) 1 ad1 xs1]) a0 b0 ad1 len1 cap1 xs1 hl1 (Nat.le_trans hm1.1 hm1.2) b1) W (Stars.push (iV hL) (Stars.push hi1 trivial))).mono fun e W' ⟨he,hg⟩=>?_
 subst he
 exact ⟨_,rfl,iS (pv:=[]) hW' (fun _ _ _=>(trodAll_cons_mk (shut_bool Tryz.underlying4 _) trodAll_mk0)) (trodAll_cons_mk (shut_int Tryz.underlying3 w0) (trodAll_cons_mk (Below.trod laidOut ah (of_decide_eq_true ah) hk1 hg hlt1) trodAll_mk0)) rfl (by simp) hg⟩
theorem over:Rows.craftTimesRow.holds Tryz.pinned (OpenSpec.ofChange Rows.craftTimesSpec) :=
 OpenClaim.holds_of_wide 4 Tryz.f4 rfl rfl rfl rfl rfl rfl rfl ⟨rfl,rfl,rfl,rfl,rfl⟩ rfl rfl rfl rfl rfl ah Tryz.func4 closed
  (of_decide_eq_true ah) (by unfold Func.isWrapper;first|(rw [if_pos (by decide +kernel)];kernel_rfl)|(rw [if_neg (by decide +kernel)];exact ⟨rfl,rfl⟩))
  (fun os started H enc _=>lifted os started H enc)
end Go.Proofs.YtfmgkkofledkbaaGreatDoor.craftTimes
namespace Go.Proofs.YtfmgkkofledkbaaGreatDoor
theorem craftTimesCard_holds:Rows.CraftTimesCardSaid :=
 Claim7.holds_tied_plain_at .later [] [.data, .data, .data, .data] true (true, "b0b1b5c118e6c71c2ce60b1f46d354eb23e09d283d0c5d5e355904ff5a0a3c54") true
  craftTimes.over (fun _ h=>by cases h) craftTimes.kc1 (fun _ h=>by cases h) craftTimes_row_tie rfl ⟨rfl,rfl⟩ craftTimes.kc2 rfl
  (fun f fn hf hfn=>by
   obtain rfl:f=4:=Option.some.inj (craftTimes.kc6.symm.trans hf) |>.symm
   obtain rfl:fn=Tryz.f4:=(Option.some.inj (Tryz.func4.symm.trans hfn)).symm
   exact ⟨craftTimes.kc3,fun j t ht=>by
    rw [Tryz.params4] at ht
    have hm:t∈[3,34]:=by simpa using Array.mem_of_getElem? ht
    have hall:([3,34].all fun u=>!Tryz.prog.wantsStandIn u)=true:=craftTimes.kc4
    exact (show Tryz.prog.wantsStandIn t=false by simpa using List.all_eq_true.1 hall t hm)⟩)
  craftTimes.kc5
end Go.Proofs.YtfmgkkofledkbaaGreatDoor
