/- Contracts: a job that is not there; a job of the reference. -/
import Derived.Test.YtfmgkkofledkbaaGreatDoorGCraftAllj
set_option linter.all false
namespace Go.Proofs.YtfmgkkofledkbaaGreatDoor
open Go.V
attribute [local irreducible] G GO GP GPW GPK Ev Ef EfR Ent CB GB V.Enters
section
def job0:JobM:=⟨0,0,0,0,0,0,0,false,0,0⟩
theorem ln {L:List HP} (yb lb:Nat) (Y:YardM) (hY:Y.Ok) (k:Nat) (hk:Y.jobs.length≤k) (hk2:k≤1000000) :
  Tri Tryz.prog 25 #[.pointer (some ⟨yb,0,none⟩),.int .i64 (k:Int)] (bz yb lb Y::L) (fun v L'=>v=.tuple #[.agg (aq job0).toArray,.bool false]∧L' = bz yb lb Y::L):=by
 have hl:=hY.len
 refine Tri.body (args:=[.pointer (some ⟨yb,0,none⟩),.int .i64 (k:Int)]) 25 en25 Tryz.func25 rfl rfl rfl (by simp) ?_
 refine G.c6 (f:=ew yb lb Y) ?_
 intro x
 simp only [ew,co,List.cons_append,List.nil_append]
 refine G.c8 ?_
 intro hF
 have hyc:=dq (yb:=yb) (lb:=lb) (Y:=Y) (L:=L) x hF
 simp only [co] at hyc
 repeat first|refine aa ?_|intro _
 refine KX.a6 (vs:=[.agg (aq job0).toArray,.bool false]) (ResOk.cell rfl (by rfl) (ResOk.tmp rfl ResOk.nil)) (Ent.trans ae hyc) ⟨rfl,rfl⟩
theorem mB {L:List HP} (j:JobM) :
  Tri Tryz.prog 30 #[.agg (aq j).toArray] L (fun v L'=>v=.agg (aq j).toArray∧L' = L):=by
 refine Tri.body (args:=[.agg (aq j).toArray]) 24 en30 Tryz.func30 rfl rfl rfl (by simp) ?_
 simp only [aq]
 repeat first|refine aa ?_|intro _
 exact KX.a6 (by exact ResOk.cell rfl (by rfl) (ResOk.nil)) ae ⟨rfl,rfl⟩
end
end Go.Proofs.YtfmgkkofledkbaaGreatDoor
