/- The package variable 'kinds' that the rows list: what the condition gives the walks. -/
import Derived.Test.YtlgpgjdggilkgaaGreatDoorRows
import Derived.Test.YtlgpgjdggilkgaaGreatDoorEcaq
import Derived.LaidMore
import Derived.Stop.Joined
set_option linter.all false
namespace Go.Proofs.YtlgpgjdggilkgaaGreatDoor
open Go.V Go.ChangeShapes Go.WideShapes Go.ChangeAt Go.RowKit
abbrev laidK : List (String × DataW Unit) := [("worldmint/lexer.kinds", Rows.laid_worldmint_lexer_kinds)]
def gK : Tryz.prog.globalNamed "worldmint/lexer.kinds" = some 0 := krStd0
def tK:(Tryz.prog.globals[0]?).map (·.type)=some 419:=krStd0
def uK:Tryz.prog.underlying 419=some (.array 128 5):=krStd0
def uE:Tryz.prog.underlying 5=some (.int .u8):=krStd0
def cE:Tryz.prog.cellsOf 5=1:=krStd0
def JH:(Rows.laid_worldmint_lexer_kinds:DataW Unit)=.agg (kindsL.map fun x=>.lit (.int .u8 x)):=by rfl
set_option maxRecDepth 100000 in
def Hu(os:Os)(args:Array Value):laidMetH Tryz.prog laidK ((World.doorLaid Tryz.prog 400 os).forCall (fun _ _=>0) ⟨#[],args,[]⟩).memory :=
 laidMetH_of_parts3 (fuel:=8) (laidMet_of_run' 8 krStd0 krStd0) krStd0 krStd0
def DK{W:World}(h:laidMetH Tryz.prog laidK W):cD (im W) Hp.emp:=by
 rw[MakeChecks.laidMetH_plain _ _ _ krStd0] at h;obtain⟨ps,⟨g0,t0,a1,f0,p0,q0,a7,b1,b2,a4,_,_⟩,_,_⟩:=h;obtain rfl:=Option.some.inj (gK.symm.trans a7);obtain rfl:=Option.some.inj (tK.symm.trans b1);obtain⟨xs,m1,rfl,a2,b0,hn,a5⟩:=DataW.trod_array uK a4;simp only[Prod.mk.injEq] at a2;have hx:=a2.1;rw[JH,DataW.agg.injEq] at hx;have b4:=tH
 have cell:∀i,i<128→a1[i]? = some (.int .u8 kindsL[i]!):=by
  intro i hi;have h0:=a5 i hi;obtain⟨x,a3⟩:∃x,xs[i]? = some x:=⟨xs[i]'(by omega),List.getElem?_eq_getElem ab⟩;rw[a3] at h0;obtain⟨k,e1,e2,_⟩:=DataW.trod_int uE h0;have hm:(xs.map (·.1))[i]? = some x.1:=by rw[List.getElem?_map,a3];rfl
  rw[←hx,List.getElem?_map,List.getElem?_eq_getElem ab] at hm;rw[e2] at hm;simp only[eK,Option.some.injEq,DataW.lit.injEq,Lit.int.injEq,true_and] at hm;rw[cE,Nat.mul_one] at e1
  have h1:(a1.toList.drop i)[0]? = some (.int .u8 k):=by
   have:=congrArg (fun l=>l[0]?) e1
   simpa [List.getElem?_take] using this
  rw[List.getElem?_drop,eA,Array.getElem?_toList] at h1;rw[h1,←hm,getElem!_of ab]
 refine⟨fun _ _=>rfl,.inr ?_⟩;have a0:=b2;simp only[World.var?,gK,Option.bind_some] at a0;split at a0
 case h_1 cur E fz hb =>
  obtain rfl:=Option.some.inj a0;refine⟨0,0,cur,E,fz,rfl,hb,?_⟩;intro i v hi;rw[du]
  have a6:kindsL.flatMap (encZ .u8)=kindsL.map fun x=>.int .u8 x:=by
   have:∀l:List Int,l.flatMap (encZ .u8)=l.map fun x=>.int .u8 x:=by
    intro l;induction l with
    | nil=>rfl
    | cons a t ih=>rw[aO,ih];rfl
   exact this _
  rw[a6,List.getElem?_map] at hi;obtain⟨x,b3,rfl⟩:=Option.map_eq_some_iff.1 hi;obtain⟨a9,rfl⟩:=List.getElem?_eq_some_iff.1 b3;rw[cell i ab,getElem!_of a9]
 all_goals simp at a0
