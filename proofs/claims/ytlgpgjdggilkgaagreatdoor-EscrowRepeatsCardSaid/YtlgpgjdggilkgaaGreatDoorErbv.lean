/- The package variable 'kinds' that the rows list: what the condition gives the walks. -/
import Derived.Test.YtlgpgjdggilkgaaGreatDoorRows
import Derived.Test.YtlgpgjdggilkgaaGreatDoorErap
import Derived.LaidMore
import Derived.Stop.Joined
set_option linter.all false
namespace Go.Proofs.YtlgpgjdggilkgaaGreatDoor
open Go.V Go.ChangeShapes Go.WideShapes Go.ChangeAt Go.RowKit
abbrev Pr : List (String × DataW Unit) := [("worldmint/lexer.kinds", Rows.laid_worldmint_lexer_kinds)]
def gK : Tryz.prog.globalNamed "worldmint/lexer.kinds" = some 0 := Γ
def tK:(Tryz.prog.globals[0]?).map (·.type)=some 419:=Γ
def uK:Tryz.prog.underlying 419=some (.array 128 5):=Γ
def uE:Tryz.prog.underlying 5=some (.int .u8):=Γ
def cE:Tryz.prog.cellsOf 5=1:=Γ
def Hv:(Rows.laid_worldmint_lexer_kinds:DataW Unit)=.agg (Mk.map λx=>.lit (.int .u8 x)):=by rfl
set_option maxRecDepth 100000 in
def Fq(os:Os)(args:Array Value):laidMetH Ε Pr ((World.doorLaid Ε 400 os).forCall (λ_ _=>0) ⟨#[],args,[]⟩).memory :=
 laidMetH_of_parts3 (fuel:=8) (laidMet_of_run' 8 Γ Γ) Γ Γ
def BN{W:World}(h:laidMetH Ε Pr W):bO (gk W) Hp.emp:=by
 rw[MakeChecks.laidMetH_plain _ _ _ Γ] at h;obtain⟨ps,⟨g0,t0,I,f0,p0,q0,a7,b1,b2,a4,_,_⟩,_,_⟩:=h;obtain rfl:=O9 (gK.symm.trans a7);obtain rfl:=O9 (tK.symm.trans b1);obtain⟨D,m1,rfl,a2,b0,hn,a5⟩:=DataW.trod_array uK a4;simp only[Prod.mk.injEq] at a2;have K:=a2.1;rw[Hv,DataW.agg.injEq] at K;have b4:=rC
 have cell:∀i,i<128->I[i]? = some (.int .u8 Mk[i]!):=by
  intro i hi;have h0:=a5 i hi;obtain⟨x,a3⟩:∃x,D[i]? = some x:=⟨D[i]'(by omega),List.getElem?_eq_getElem B⟩;rw[a3] at h0;obtain⟨k,e1,e2,_⟩:=DataW.trod_int uE h0;have hm:(D.map (·.1))[i]? = some x.1:=by rw[List.getElem?_map,a3];rfl
  rw[<-K,List.getElem?_map,List.getElem?_eq_getElem B] at hm;rw[e2] at hm;simp only[dM,Option.some.injEq,DataW.lit.injEq,Lit.int.injEq,true_and] at hm;rw[cE,Nat.mul_one] at e1
  have J:(I.toList.drop i)[0]? = some (.int .u8 k):=by
   have:=congrArg (λl=>l[0]?) e1
   simpa [List.getElem?_take] using this
  rw[List.getElem?_drop,dW,Array.getElem?_toList] at J;rw[J,<-hm,C5 B]
 refine⟨λ_ _=>rfl,.inr ?_⟩;have r:=b2;simp only[World.var?,gK,Option.bind_some] at r;split at r
 case h_1 cur Τ fz hb =>
  obtain rfl:=O9 r;refine⟨0,0,cur,Τ,fz,rfl,hb,?_⟩;intro i v hi;rw[cW]
  have a6:Mk.flatMap (a0 .u8)=Mk.map λx=>.int .u8 x:=by
   have:∀l:List Int,l.flatMap (a0 .u8)=l.map λx=>.int .u8 x:=by
    intro l;induction l with
    | nil=>rfl
    | cons a t ih=>rw[aR,ih];rfl
   exact this _
  rw[a6,List.getElem?_map] at hi;obtain⟨x,b3,rfl⟩:=Option.map_eq_some_iff.1 hi;obtain⟨a9,rfl⟩:=List.getElem?_eq_some_iff.1 b3;rw[cell i B,C5 a9]
 all_goals simp at r
