/- Lemmas. -/
import Derived.Test.YtlgpgjdggilkgaaGreatDoorEtag
import Derived.Sort.Grow
import Derived.Lib.SlicesCompact
set_option linter.all false
namespace Go.Proofs.YtlgpgjdggilkgaaGreatDoor
open Go.V
instance:RR Θ 47 3:=RR.of Ζ Ζ Ζ Ζ Ζ
instance:RR Θ 137 2:=RR.of Ζ Ζ Ζ Ζ Ζ
instance:RR Θ 157 2:=RR.of Ζ Ζ Ζ Ζ Ζ
instance:Ud Θ 419 128 5 1:=⟨Ζ,Ζ⟩
instance:P0 Θ 126 137 35 (ah none 0 0):=⟨Ζ,Ζ⟩
instance:QZ Θ 137 D5:=Xp
instance:P0 Θ 127 3 3 (J 0):=⟨Ζ,Ζ⟩
instance:QZ Θ 3 gm:=Y0
instance:P0 Θ 128 3 35 (ah none 0 0):=⟨Ζ,Ζ⟩
instance:P0 Θ 143 3 141 (.pointer none):=⟨Ζ,Ζ⟩
instance:P0 Θ 144 3 151 (.pointer none):=⟨Ζ,Ζ⟩
instance:P0 Θ 145 157 4 (.bool false):=⟨Ζ,Ζ⟩
instance:P0 Θ 148 3 4 (.bool false):=⟨Ζ,Ζ⟩
instance:P0 Θ 251 3 249 (.nilFunc):=⟨Ζ,Ζ⟩
instance:P0 Θ 375 9 4 (.bool false):=⟨Ζ,Ζ⟩
instance:QZ Θ 9 Q0:=Y1
end Go.Proofs.YtlgpgjdggilkgaaGreatDoor
namespace Go.V
section
def ab{φ ψ:Prop}(k:ψ)(h:Hid ψ->φ:=by intro k;(repeat1' (first|refine Nc ?_|((with_reducible apply ms.a8);first|refine ms.keep zS ?_|refine ms.drop rfl ?_)|with_reducible apply Α.seq));exact Hid.out k):φ:=h ⟨k⟩
def Nd{φ ψ:Prop}(k:ψ)(h:Hid ψ->φ:=by intro k;(repeat (first|refine ab ?_|intro B6));(repeat revert B6);exact Hid.out k):φ:=h ⟨k⟩
def dA{φ ψ:Prop}(k:ψ)(h:Hid ψ->φ:=by intro k;(repeat1' (first|refine Nc ?_|((with_reducible apply ms.a8);first|refine ms.keep zS ?_|refine ms.drop rfl ?_)));exact Hid.out k):φ:=h ⟨k⟩
section
variable {P:Program}{N:Nat}{env:Env}{L:Η}{ty:TypeId}{v:Value}
end
end
section
open Go.Sort
def wX{Μ:List Int}{B:Array Value}{m:Nat}(hm:m<=Μ.length)(hc:Μ.length<=B.size):(putCells (Value.int .i64) 0 Μ.toArray B).toList.take (m*1)=(Μ.take m).flatMap (dJ .i64):=by
 rw[og,ga];apply gJ;intro i;by_cases hi:i<m
 .have K:i<Μ.length:=D;have T:i<B.size:=D;rw[List.getElem?_take,Χ hi];simp[putCells,K,T,hi]
 .rw[List.getElem?_take,Ν hi];simp;omega
def Sat.putRow{θ:Th}{g η:Nat}{M:Array Value}{R:Η}{w:World}{Μ:Array Int}{n:Nat}{os:Array Obj}(s:Sat θ (jC g (.cells M η (0,0))::R) w) :
  Sat θ (jC g (.cells (putCells (Value.int .i64) 0 Μ M) η (0,0))::R) (grow (Sort.putRow (Value.int .i64) (Sort.ahead w n) g 0 Μ) os):=by
 have hb:=s.Nr;have a2:g<w.heap.size:=(Array.getElem?_eq_some_iff.1 hb).1;refine s.update ⟨s.1.tape,s.1.os,s.1.output,aO s.1.drawn (Nat.le_add_right _ _)⟩ ?_ ?_
 .show(w.heap.modify g (onCells (putCells (Value.int .i64) 0 Μ))++os)[g]? = _;rw[Array.getElem?_append_left (by simpa using a2),Array.getElem?_modify,Χ rfl,hb];rfl
 .intro k x hk O;have B:k<w.heap.size:=(Array.getElem?_eq_some_iff.1 O).1;show(w.heap.modify g (onCells (putCells (Value.int .i64) 0 Μ))++os)[k]? = _;rw[Array.getElem?_append_left (by simpa using B),Array.getElem?_modify,Ν (λe=>hk e.symm),O]
def GV{g η:Nat}{B:Array Value}{I:List Int}{w:World}(hb:w.heap[g]? = some (.cells B η (0,0)))(ht:B.toList.take (I.length*1)=I.flatMap (dJ .i64)):Holds (Value.int .i64) w g 0 I.toArray:=by
 intro j hj;have M : j<I.length:=by simpa using hj
 refine⟨?_,by simp[World.frozen?,hb]⟩;rw[dw,eh hb];have h:(B.toList.take (I.length*1))[j]? = (I.flatMap (dJ .i64))[j]?:=by rw[ht]
 rw[og,List.getElem?_take,Χ D] at h;simp[M] at h;simp[M,h]
def Τ.d7{P:Program}{f:FuncId}{η cap:Nat}{ad:OA}{I ys:List Int}{L:Η}(he:Enters P f)(B:ys.length=I.length)(a6:I.length<4611686018427387904)
  (h0:I.length=0->∀w,Calls P f #[.slice ad 0 cap] w λe cO=>e=.returned (.tuple #[])/\cO = w)
  (K:∀blk w,Holds (Value.int .i64) w blk 0 I.toArray->blk<w.heap.size->Calls P f #[.slice (some ⟨blk,0,none⟩) I.length cap] w λe cO=>e=.returned (.tuple #[])/\∃n os,cO = grow (Sort.putRow (Value.int .i64) (Sort.ahead w n) blk 0 ys.toArray) os) :
  Τ P f #[.slice ad I.length cap] (Ω (dJ .i64) 1 η ad cap I::L) (λv Γ=>v=.tuple #[]/\Γ = Ω (dJ .i64) 1 η ad cap ys::L):=by
 refine⟨he,λθ R w s=>?_⟩;by_cases O:I.length=0
 .have e1:I=[]:=cd O;have e2:ys=[]:=cd D;subst e1 e2;refine(h0 rfl w).mono ?_;rintro e cO ⟨rfl,rfl⟩;exact⟨_,_,rfl,⟨rfl,rfl⟩,s⟩
 obtain⟨M,a2,a3,a4⟩:=Sat.QY (L:=L++R) s;rcases a4 with⟨rfl,rfl⟩|⟨g,a5,rfl,b1,b2,b3⟩
 .omega
 have hb:=b3.Nr;refine(K g w (GV hb b2) (Array.getElem?_eq_some_iff.1 hb).1).mono ?_;rintro e cO ⟨rfl,n,os,rfl⟩;refine⟨_,_,rfl,⟨rfl,rfl⟩,?_⟩;refine Sat.RO (L:=L++R) (Sat.putRow b3) (λ_ _=>rfl) D a3 ?_ ?_
 .simp[putCells,b1]
 .rw[wX (an _) (by rw[b1];omega),cz]
