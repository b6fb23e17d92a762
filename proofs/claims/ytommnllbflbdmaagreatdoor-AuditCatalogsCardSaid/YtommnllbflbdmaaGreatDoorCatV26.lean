/- Operations: copy, clear, concatenation of strings. Holds for any program. -/
import Derived.Test.YtommnllbflbdmaaGreatDoorCatV25
import Derived.Test.YtommnllbflbdmaaGreatDoorCatar
import Derived.Laws.CopyRow
set_option linter.all false
namespace Go.V
section
variable {P:Program}{env:Env}{L:LH}{ty:TypeId}
def Ev.p5{t yt:TypeId}{x y:Operand}{a b:ByteArray}(hx:evE env x=some (.string a))(hy:evE env y=some (.string b))(h:a.size+b.size≤1000000000):Ev P L env (.binOp .add t x y yt) ty (.string (a++b)) :=
 Ev.mk (fun _ _ _ w ea _ _ _ _ _=>by
  have hn:¬((a.size+b.size:Nat):Int)>IntKind.i64.max:=by simp[IntKind.max,IntKind.bits];omega
  simp only[execOp,aP ea hx,aP ea hy,binOp,Op.stringOp,if_neg hn];rfl)
