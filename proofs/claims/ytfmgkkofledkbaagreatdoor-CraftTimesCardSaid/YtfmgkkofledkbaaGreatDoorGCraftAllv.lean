/- CraftTimes: the law. -/
import Derived.Test.YtfmgkkofledkbaaGreatDoorGCraftAlls
import Derived.Test.YtfmgkkofledkbaaGreatDoorGCraftAllk
set_option linter.all false
namespace Go.Proofs.YtfmgkkofledkbaaGreatDoor
open Go.V
attribute [local irreducible] G GO GP GPW GPK Ev Ef EfR Ent CB GB V.Enters
section
theorem BL {m:List (Int×SlI)} (hn:(m.map (·.1)).Nodup) (a:Int) {L:List HP}:Ent (osl (encZ .i64) 1 tInt (slOf m a).ad (slOf m a).cap (slOf m a).ids::bigO idsP (gera m a)::L) (bigO idsP m::L):=by
 unfold slOf
 cases h:glk m a with
 | none =>
  rw [mH (kA h)]
  exact Ent.drop
 | some e =>
  have h1:Ent (idsP (a,e)::bigO idsP (gera m a)::L) (bigO idsP ((a,e)::gera m a)::L):=Ent.bigO_cons
  exact h1.trans (Ent.f8 (kU hn h).symm)
theorem nm {L:List HP} (yb lb:Nat) (Y:YardM) (hY:Y.Ok) (a:Int) :
  Tri Tryz.prog 24 #[.pointer (some ⟨yb,0,none⟩),.int .i64 a] (bz yb lb Y::L) (fun v L'=>∃ ad cap,v=.slice ad (aG Y.jobs a).length cap∧L' = osl (encZ .i64) 1 tInt ad cap (aG Y.jobs a)::bz yb lb Y::L):=by
 have hjl:=hY.len
 refine Tri.body (args:=[.pointer (some ⟨yb,0,none⟩),.int .i64 a]) 12 en24 Tryz.func24 rfl rfl rfl (by simp) ?_
 refine G.c6 (f:=ew yb lb Y) ?_
 intro x
 simp only [ew,co,List.cons_append,List.nil_append]
 refine G.c8 ?_
 intro hF
 have hyc:=dq (yb:=yb) (lb:=lb) (Y:=Y) (L:=L) x hF
 simp only [co] at hyc
 refine G.c9 (fH (b:=x.om)) ?_
 intro hnd
 have hids:=pn hF a
 obtain ⟨sl,hsl⟩:∃ sl,slOf x.m a=sl:=⟨_,rfl⟩
 rw [hsl] at hids
 have hil:sl.ids.length≤60:=by
  rw [hids]
  unfold aG
  rw [List.length_map]
  have:=List.length_filter_le (fun k=>decide (Y.jobs[k]!.acc=a) && !Y.jobs[k]!.done) (List.range Y.jobs.length)
  rw [List.length_range] at this
  omega
 repeat first|refine aa ?_|intro _
 refine GO.ev (yM rfl hsl rfl rfl) ac ?_
 repeat first|refine aa ?_|intro _
 have hso:=ns (m:=x.m) hnd a (L:=obj yb bu (ax lb Y x)::isl (encZ .u8) 1 x.sad Y.seed::osl aq 10 tJob x.jad x.jcap Y.jobs::gmap kvI SlI.v x.om x.m::L)
 rw [hsl] at hso
 refine GO.ent (L':=osl (encZ .i64) 1 tInt sl.ad sl.cap sl.ids::bigO idsP (gera x.m a)::obj yb bu (ax lb Y x)::isl (encZ .u8) 1 x.sad Y.seed::osl aq 10 tJob x.jad x.jcap Y.jobs::gmap kvI SlI.v x.om x.m::L) (Ent.trans ae hso) ?_
 refine GO.ef (Ef.a6 (iu sl.ad sl.ids.length sl.cap sl.ids rfl ab) rfl) ac ?_
 rintro _ _ ⟨ad2,cap2,rfl,rfl⟩
 repeat first|refine aa ?_|intro _
 rw [← hids]
 refine KX.a6 ai ?_ ⟨ad2,cap2,rfl,rfl⟩
 refine Ent.a6 ?_
 refine Ent.trans ?_ hyc
 have hsc:=BL (m:=x.m) hnd a (L:=obj yb bu (ax lb Y x)::isl (encZ .u8) 1 x.sad Y.seed::osl aq 10 tJob x.jad x.jcap Y.jobs::gmap kvI SlI.v x.om x.m::L)
 rw [hsl] at hsc
 refine hsc.trans ?_
 exact ae
end
end Go.Proofs.YtfmgkkofledkbaaGreatDoor
