/- The package variable 'kinds' that the rows list: what the condition gives the walks. -/
import Derived.Test.YtfmgkkofledkbaaGreatDoorRows
import Derived.Test.YtfmgkkofledkbaaGreatDoorGCraftAllb
import Derived.Test.YtfmgkkofledkbaaGreatDoorGCraftAlld
import Derived.ProofKit
import Derived.LaidMore
import Derived.OpenShut
import Derived.Stop.Joined
set_option linter.all false
namespace Go.Proofs.YtfmgkkofledkbaaGreatDoor
open Go.V Go.ChangeShapes Go.WideShapes Go.ChangeAt Go.RowKit
abbrev laidK : List (String × DataW Unit) := [("math/bits.deBruijn32tab", Rows.laid_math_bits_deBruijn32tab), ("math/bits.deBruijn64tab", Rows.laid_math_bits_deBruijn64tab), ("internal/strconv.uint64pow10", Rows.laid_internal_strconv_uint64pow10), ("worldmint/lexer.kinds", Rows.laid_worldmint_lexer_kinds)]
theorem gK : Tryz.prog.globalNamed "worldmint/lexer.kinds" = some 3 := by kernel_rfl
theorem tK:(Tryz.prog.globals[3]?).map (·.type)=some 398:=by kernel_rfl
theorem uK:Tryz.prog.underlying 398=some (.array 128 5):=by kernel_rfl
theorem uE:Tryz.prog.underlying 5=some (.int .u8):=by kernel_rfl
theorem cE:Tryz.prog.cellsOf 5=1:=by kernel_rfl
theorem FM:(Rows.laid_worldmint_lexer_kinds:DataW Unit)=.agg (kindsL.map fun x=>.lit (.int .u8 x)):=by rfl
set_option maxRecDepth 100000 in
theorem kC (os:Os) (args:Array Value):laidMetH Tryz.prog laidK ((World.doorLaid Tryz.prog 400 os).forCall (fun _ _=>0) ⟨#[],args,[]⟩).memory :=
 laidMetH_of_parts3 (fuel:=8) (laidMet_of_run' 8 ah ah) ah ah
theorem iV {W:World} (h:laidMetH Tryz.prog laidK W):aP (el W) Hp.emp:=by
 rw [MakeChecks.laidMetH_plain _ _ _ ah] at h
 obtain ⟨ps,⟨_,_,_,_,_,_,_,_,_,_,⟨_,_,_,_,_,_,_,_,_,_,⟨_,_,_,_,_,_,_,_,_,_,⟨g0,t0,cs0,f0,p0,q0,hg0,ht0,hv0,hd0,_,_⟩,_⟩,_⟩,_⟩,_,_⟩:=h
 obtain rfl:=Option.some.inj (gK.symm.trans hg0)
 obtain rfl:=Option.some.inj (tK.symm.trans ht0)
 obtain ⟨xs,m1,rfl,hx1,hlen,hn,hel⟩:=DataW.trod_array uK hd0
 simp only [Prod.mk.injEq] at hx1
 have hx:=hx1.1
 rw [FM,DataW.agg.injEq] at hx
 have hkl:=qQ
 have cell:∀ i,i<128→cs0[i]? = some (.int .u8 kindsL[i]!):=by
  intro i hi
  have h0:=hel i hi
  obtain ⟨x,hxi⟩:∃ x,xs[i]? = some x:=⟨xs[i]'(by omega),List.getElem?_eq_getElem ab⟩
  rw [hxi] at h0
  obtain ⟨k,e1,e2,_⟩:=DataW.trod_int uE h0
  have hm:(xs.map (·.1))[i]? = some x.1:=by rw [List.getElem?_map,hxi];rfl
  rw [← hx,List.getElem?_map,List.getElem?_eq_getElem ab] at hm
  rw [e2] at hm
  simp only [Option.map_some,Option.some.injEq,DataW.lit.injEq,Lit.int.injEq,true_and] at hm
  rw [cE,Nat.mul_one] at e1
  have h1:(cs0.toList.drop i)[0]? = some (.int .u8 k):=by
   have:=congrArg (fun l=>l[0]?) e1
   simpa [List.getElem?_take] using this
  rw [List.getElem?_drop,Nat.add_zero,Array.getElem?_toList] at h1
  rw [h1,← hm,getElem!_of ab]
 refine ⟨fun _ _=>rfl,.inr ?_⟩
 have hv1:=hv0
 simp only [World.var?,gK,Option.bind_some] at hv1
 split at hv1
 case h_1 cur E fz hb =>
  obtain rfl:=Option.some.inj hv1
  refine ⟨3,0,cur,E,fz,rfl,hb,?_⟩
  intro i v hi
  rw [Nat.zero_add]
  have hfl:kindsL.flatMap (encZ .u8)=kindsL.map fun x=>.int .u8 x:=by
   have:∀ l:List Int,l.flatMap (encZ .u8)=l.map fun x=>.int .u8 x:=by
    intro l
    induction l with
    | nil=>rfl
    | cons a t ih=>rw [List.flatMap_cons,ih];rfl
   exact this _
  rw [hfl,List.getElem?_map] at hi
  obtain ⟨x,hxx,rfl⟩:=Option.map_eq_some_iff.1 hi
  obtain ⟨hi2,rfl⟩:=List.getElem?_eq_some_iff.1 hxx
  rw [cell i ab,getElem!_of hi2]
 all_goals simp at hv1
end Go.Proofs.YtfmgkkofledkbaaGreatDoor
