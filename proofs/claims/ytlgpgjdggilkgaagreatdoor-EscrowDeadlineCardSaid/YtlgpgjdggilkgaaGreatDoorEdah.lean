/- Lemmas. -/
import Derived.Test.YtlgpgjdggilkgaaGreatDoorEdag
import Derived.Sort.Grow
import Derived.Lib.SlicesCompact
set_option linter.all false
namespace Go.Proofs.YtlgpgjdggilkgaaGreatDoor
open Go.V
instance:Rp Λ 47 3:=Rp.of Θ Θ Θ Θ Θ
instance:Rp Λ 137 2:=Rp.of Θ Θ Θ Θ Θ
instance:Rp Λ 157 2:=Rp.of Θ Θ Θ Θ Θ
instance:TL Λ 419 128 5 1:=⟨Θ,Θ⟩
instance:PD Λ 126 137 35 (ae none 0 0):=⟨Θ,Θ⟩
instance:Qx Λ 137 D6:=W8
instance:PD Λ 127 3 3 (K 0):=⟨Θ,Θ⟩
instance:Qx Λ 3 gT:=YO
instance:PD Λ 128 3 35 (ae none 0 0):=⟨Θ,Θ⟩
instance:PD Λ 143 3 141 (.pointer none):=⟨Θ,Θ⟩
instance:PD Λ 144 3 151 (.pointer none):=⟨Θ,Θ⟩
instance:PD Λ 145 157 4 (.bool false):=⟨Θ,Θ⟩
instance:PD Λ 148 3 4 (.bool false):=⟨Θ,Θ⟩
instance:PD Λ 251 3 249 (.nilFunc):=⟨Θ,Θ⟩
instance:PD Λ 375 9 4 (.bool false):=⟨Θ,Θ⟩
instance:Qx Λ 9 Qy:=YP
end Go.Proofs.YtlgpgjdggilkgaaGreatDoor
namespace Go.V
section
def ab{φ ψ:Prop}(k:ψ)(h:Hid ψ->φ:=by intro k;(repeat1' (first|refine MK ?_|((with_reducible apply vi.a8);first|refine vi.keep zQ ?_|refine vi.drop rfl ?_)|with_reducible apply Β.seq));exact Hid.out k):φ:=h ⟨k⟩
def ML{φ ψ:Prop}(k:ψ)(h:Hid ψ->φ:=by intro k;(repeat (first|refine ab ?_|intro B8));(repeat revert B8);exact Hid.out k):φ:=h ⟨k⟩
def dz{φ ψ:Prop}(k:ψ)(h:Hid ψ->φ:=by intro k;(repeat1' (first|refine MK ?_|((with_reducible apply vi.a8);first|refine vi.keep zQ ?_|refine vi.drop rfl ?_)));exact Hid.out k):φ:=h ⟨k⟩
section
variable {P:Program}{N:Nat}{env:Env}{L:Ι}{ty:TypeId}{v:Value}
end
end
section
open Go.Sort
def xd{Ξ:List Int}{A:Array Value}{m:Nat}(hm:m<=Ξ.length)(hc:Ξ.length<=A.size):(putCells (Value.int .i64) 0 Ξ.toArray A).toList.take (m*1)=(Ξ.take m).flatMap (eU .i64):=by
 rw[oa,gc];apply gM;intro i;by_cases hi:i<m
 .have I:i<Ξ.length:=D;have Q:i<A.size:=D;rw[List.getElem?_take,Ω hi];simp[putCells,I,Q,hi]
 .rw[List.getElem?_take,Ο hi];simp;omega
def Sat.putRow{θ:Th}{g ζ:Nat}{J:Array Value}{R:Ι}{w:World}{Ξ:Array Int}{n:Nat}{os:Array Obj}(s:Sat θ (sh g (.cells J ζ (0,0))::R) w) :
  Sat θ (sh g (.cells (putCells (Value.int .i64) 0 Ξ J) ζ (0,0))::R) (grow (Sort.putRow (Value.int .i64) (Sort.ahead w n) g 0 Ξ) os):=by
 have hb:=s.M8;have a2:g<w.heap.size:=(Array.getElem?_eq_some_iff.1 hb).1;refine s.update ⟨s.1.tape,s.1.os,s.1.output,aO s.1.drawn (Nat.le_add_right _ _)⟩ ?_ ?_
 .show(w.heap.modify g (onCells (putCells (Value.int .i64) 0 Ξ))++os)[g]? = _;rw[Array.getElem?_append_left (by simpa using a2),Array.getElem?_modify,Ω rfl,hb];rfl
 .intro k x hk M;have A:k<w.heap.size:=(Array.getElem?_eq_some_iff.1 M).1;show(w.heap.modify g (onCells (putCells (Value.int .i64) 0 Ξ))++os)[k]? = _;rw[Array.getElem?_append_left (by simpa using A),Array.getElem?_modify,Ο (λe=>hk e.symm),M]
def GK{g ζ:Nat}{A:Array Value}{G:List Int}{w:World}(hb:w.heap[g]? = some (.cells A ζ (0,0)))(ht:A.toList.take (G.length*1)=G.flatMap (eU .i64)):Holds (Value.int .i64) w g 0 G.toArray:=by
 intro j hj;have J : j<G.length:=by simpa using hj
 refine⟨?_,by simp[World.frozen?,hb]⟩;rw[dv,ej hb];have h:(A.toList.take (G.length*1))[j]? = (G.flatMap (eU .i64))[j]?:=by rw[ht]
 rw[oa,List.getElem?_take,Ω D] at h;simp[J] at h;simp[J,h]
def Υ.d7{P:Program}{f:FuncId}{ζ cap:Nat}{ad:OA}{G ys:List Int}{L:Ι}(he:Enters P f)(A:ys.length=G.length)(a6:G.length<4611686018427387904)
  (h0:G.length=0->∀w,Calls P f #[.slice ad 0 cap] w λe dH=>e=.returned (.tuple #[])/\dH = w)
  (I:∀blk w,Holds (Value.int .i64) w blk 0 G.toArray->blk<w.heap.size->Calls P f #[.slice (some ⟨blk,0,none⟩) G.length cap] w λe dH=>e=.returned (.tuple #[])/\∃n os,dH = grow (Sort.putRow (Value.int .i64) (Sort.ahead w n) blk 0 ys.toArray) os) :
  Υ P f #[.slice ad G.length cap] (μ (eU .i64) 1 ζ ad cap G::L) (λv Ε=>v=.tuple #[]/\Ε = μ (eU .i64) 1 ζ ad cap ys::L):=by
 refine⟨he,λθ R w s=>?_⟩;by_cases M:G.length=0
 .have e1:G=[]:=cc M;have e2:ys=[]:=cc D;subst e1 e2;refine(h0 rfl w).mono ?_;rintro e dH ⟨rfl,rfl⟩;exact⟨_,_,rfl,⟨rfl,rfl⟩,s⟩
 obtain⟨J,a2,a3,a4⟩:=Sat.Qw (L:=L++R) s;rcases a4 with⟨rfl,rfl⟩|⟨g,a5,rfl,b1,b2,b3⟩
 .omega
 have hb:=b3.M8;refine(I g w (GK hb b2) (Array.getElem?_eq_some_iff.1 hb).1).mono ?_;rintro e dH ⟨rfl,n,os,rfl⟩;refine⟨_,_,rfl,⟨rfl,rfl⟩,?_⟩;refine Sat.Rm (L:=L++R) (Sat.putRow b3) (λ_ _=>rfl) D a3 ?_ ?_
 .simp[putCells,b1]
 .rw[xd (ax _) (by rw[b1];omega),cK]
