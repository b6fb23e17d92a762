/- The walking tactic, with reads looked at again before they are dropped. -/
import Derived.Test.YtommnllbflbdmaaGreatDoorIah
set_option linter.all false
namespace Go.V
def aa{φ ψ:Prop}(k:ψ)(h:Hid ψ→φ:=by intro k;(repeat1' (first|refine Hy ?_|((with_reducible apply GPK.d7);first|refine GPK.keep xd ?_|refine GPK.drop rfl ?_)|with_reducible apply G.seq));exact Hid.out k):φ:=h ⟨k⟩
def Hz{φ ψ:Prop}(k:ψ)(h:Hid ψ→φ:=by intro k;(repeat (first|refine aa ?_|intro zzz));(repeat revert zzz);exact Hid.out k):φ:=h ⟨k⟩
def bA{φ ψ:Prop}(k:ψ)(h:Hid ψ→φ:=by intro k;(repeat1' (first|refine Hy ?_|((with_reducible apply GPK.d7);first|refine GPK.keep xd ?_|refine GPK.drop rfl ?_)));exact Hid.out k):φ:=h ⟨k⟩
