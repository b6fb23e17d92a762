/- Ranges over functions whose state behind the range depends on where the range was left. -/
import Derived.Test.YtommnllbflbdmaaGreatDoorCataj
set_option linter.all false
namespace Go.V
section fv
variable {P:Program}{N:Nat}{env:Env}{L:LH}{K:Post}{ty:TypeId}
