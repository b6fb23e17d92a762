/- The walking tactic, with reads looked at again before they are dropped. -/
import Derived.Test.YtlgpgjdggilkgaaGreatDoorErah
set_option linter.all false
namespace Go.V
def aa{φ ψ:Prop}(k:ψ)(h:Hid ψ->φ:=by intro k;(repeat1' (first|refine Ig ?_|((with_reducible apply h2.a8);first|refine h2.keep wB ?_|refine h2.drop rfl ?_)|with_reducible apply Δ.seq));exact Hid.out k):φ:=h ⟨k⟩
def Ih{φ ψ:Prop}(k:ψ)(h:Hid ψ->φ:=by intro k;(repeat (first|refine aa ?_|intro sh));(repeat revert sh);exact Hid.out k):φ:=h ⟨k⟩
def cR{φ ψ:Prop}(k:ψ)(h:Hid ψ->φ:=by intro k;(repeat1' (first|refine Ig ?_|((with_reducible apply h2.a8);first|refine h2.keep wB ?_|refine h2.drop rfl ?_)));exact Hid.out k):φ:=h ⟨k⟩
