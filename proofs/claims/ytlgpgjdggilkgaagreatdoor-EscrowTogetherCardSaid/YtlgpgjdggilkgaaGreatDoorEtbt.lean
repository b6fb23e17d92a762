/- The package variable 'kinds' that the rows list: what the condition gives the walks. -/
import Derived.Test.YtlgpgjdggilkgaaGreatDoorRows
import Derived.Test.YtlgpgjdggilkgaaGreatDoorEtao
import Derived.LaidMore
import Derived.Stop.Joined
set_option linter.all false
namespace Go.Proofs.YtlgpgjdggilkgaaGreatDoor
open Go.V Go.ChangeShapes Go.WideShapes Go.ChangeAt Go.RowKit
abbrev UT : List (String × DataW Unit) := [("worldmint/lexer.kinds", Rows.laid_worldmint_lexer_kinds)]
def gK : Tryz.prog.globalNamed "worldmint/lexer.kinds" = some 0 := Ζ
def tK:(Tryz.prog.globals[0]?).map (·.type)=some 419:=Ζ
def uK:Tryz.prog.underlying 419=some (.array 128 5):=Ζ
def uE:Tryz.prog.underlying 5=some (.int .u8):=Ζ
def cE:Tryz.prog.cellsOf 5=1:=Ζ
def Mh:(Rows.laid_worldmint_lexer_kinds:DataW Unit)=.agg (Rw.map λx=>.lit (.int .u8 x)):=by rfl
set_option maxRecDepth 100000 in
def Jo(os:Os)(args:Array Value):laidMetH Θ UT ((World.doorLaid Θ 400 os).forCall (λ_ _=>0) ⟨#[],args,[]⟩).memory :=
 laidMetH_of_parts3 (fuel:=8) (laidMet_of_run' 8 Ζ Ζ) Ζ Ζ
def ES{W:World}(h:laidMetH Θ UT W):cc (ib W) Hp.emp:=by
 rw[MakeChecks.laidMetH_plain _ _ _ Ζ] at h;obtain⟨ps,⟨g0,t0,M,f0,p0,q0,a7,b1,b2,a4,_,_⟩,_,_⟩:=h;obtain rfl:=Pr (gK.symm.trans a7);obtain rfl:=Pr (tK.symm.trans b1);obtain⟨I,m1,rfl,a2,b0,hn,a5⟩:=DataW.trod_array uK a4;simp only[Prod.mk.injEq] at a2;have O:=a2.1;rw[Mh,DataW.agg.injEq] at O;have b4:=uy
 have cell:∀i,i<128->M[i]? = some (.int .u8 Rw[i]!):=by
  intro i hi;have h0:=a5 i hi;obtain⟨x,a3⟩:∃x,I[i]? = some x:=⟨I[i]'(by omega),List.getElem?_eq_getElem D⟩;rw[a3] at h0;obtain⟨k,e1,e2,_⟩:=DataW.trod_int uE h0;have hm:(I.map (·.1))[i]? = some x.1:=by rw[List.getElem?_map,a3];rfl
  rw[<-O,List.getElem?_map,List.getElem?_eq_getElem D] at hm;rw[e2] at hm;simp only[fm,Option.some.injEq,DataW.lit.injEq,Lit.int.injEq,true_and] at hm;rw[cE,ga] at e1
  have K:(M.toList.drop i)[0]? = some (.int .u8 k):=by
   have:=congrArg (λl=>l[0]?) e1
   simpa [List.getElem?_take] using this
  rw[List.getElem?_drop,dx,Array.getElem?_toList] at K;rw[K,<-hm,D7 D]
 refine⟨λ_ _=>rfl,.inr ?_⟩;have B:=b2;simp only[World.var?,gK,Option.bind_some] at B;split at B
 case h_1 cur η fz hb =>
  obtain rfl:=Pr B;refine⟨0,0,cur,η,fz,rfl,hb,?_⟩;intro i v hi;rw[dw]
  have a6:Rw.flatMap (dJ .u8)=Rw.map λx=>.int .u8 x:=by
   have:∀l:List Int,l.flatMap (dJ .u8)=l.map λx=>.int .u8 x:=by
    intro l;induction l with
    | nil=>rfl
    | cons a t ih=>rw[aT,ih];rfl
   exact this _
  rw[a6,List.getElem?_map] at hi;obtain⟨x,b3,rfl⟩:=Option.map_eq_some_iff.1 hi;obtain⟨a9,rfl⟩:=List.getElem?_eq_some_iff.1 b3;rw[cell i D,D7 a9]
 all_goals simp at B
