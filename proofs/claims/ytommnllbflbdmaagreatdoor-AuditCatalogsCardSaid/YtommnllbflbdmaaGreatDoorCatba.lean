/- Lemmas. -/
import Derived.Test.YtommnllbflbdmaaGreatDoorCatav
set_option linter.all false
namespace Go.Proofs.YtommnllbflbdmaaGreatDoor
section
open Go.V
attribute [local irreducible] G GO GP GPW GPK Ev Ef EfR Ent CB GB V.Enters
def wS(ps:LL1)(n:Int):Prop:=gm ps∧lsum ps=n∧lsum (setL ps)=n
def GN(k:Nat)(m:MvM):Prop:=(0≤m.item∧m.item<k)∧(1≤m.n∧m.n≤1099511627776)∧m.frm≠m.to∧(0≤m.frm∧0≤m.to∧m.frm≤1073741824∧m.to≤1073741824)
def CI(k:Nat)(st:Bool)(m:MvM):Prop:=GN k m∧(if st=true then wS m.parts m.n else m.parts.length=0)
def kM(k:Int):Bool:=dB (k=5∨k=7∨k=9)
def mC(k:Int)(m:MvM):Prop:=if k=0∨k=5 then m.frm=0 else if k=1∨k=6 then m.to=0 else if k=7 then 0<m.frm else if k=9 then 0<m.to else 0<m.frm∧0<m.to
instance (k:Int)(m:MvM):Decidable (mC k m):=by unfold mC;infer_instance
def iF(s:StM):Prop:=s.rule = -1∧(1≤s.times∧s.times≤1048576)∧s.moves.length=2∧s.moves[0]!.to=0∧s.moves[1]!.frm=0∧s.moves[1]!.to=s.moves[0]!.frm∧s.moves[0]!.n % s.times=0∧s.moves[1]!.n % s.times=0
def DO(rules:List RuM)(s:StM):Prop:=if s.kind=4 then gS rules s.rule s.times s.moves else if s.kind=10 then iF s else(∀m∈s.moves,mC s.kind m)∧s.rule = -1∧s.times=0
def gu(c:CatM)(now:Int)(s:StM):Prop :=
 (0≤s.kind∧s.kind≤10)∧accP s.actor∧(now≤s.tick∧s.tick≤1099511627776)∧(1≤s.moves.length∧s.moves.length≤64)∧(∀m∈s.moves,CI c.items.length (kM s.kind) m)∧DO c.rules s
noncomputable instance (a b c):Decidable (gu a b c):=Classical.propDecidable _
def tr{s:StV}{i:Nat}(h:i<s.moves.length){L:LH}:Ent (stP s::L) (isl ay 3 s.moves[i]!.pad s.moves[i]!.m.parts::stP s::L):=Ent.d9 (f:=mvP) (aL h)
def mixR(x:RLX)(i:Int):Bool:=x.cat.items[i.toNat]!.mixed
def qt(l:List RStk):Prop:=(l.map (fun s=>(s.acc,s.item))).Nodup
structure TkF (x:RLX) (m:MvM) (st:List RStk):Prop where
 lots:∀a i,(ng st a i).lots=if m.frm=0 then(ng x.stks a i).lots else upd2 (fun a i=>(ng x.stks a i).lots) m.frm m.item (fV (mixR x m.item) (ng x.stks m.frm m.item).lots m.n) a i
 sum:∀i,rsum st i=rsum x.stks i - (if m.frm≠0∧i=m.item then m.n else 0)
 ok:rOk st
 len:st.length≤x.stks.length+1
 dist:qt x.stks→qt st
def sF{l:LL1}{f n:Int}(h:∀x∈l,LotOk x)(hn:1≤n):ba l (f,0,n)=l++[(f,0,n)]:=by
 unfold ba;rw[if_neg gn,if_neg];rintro⟨h1,h2⟩;rw[lcont_iff] at h2;have:=h _ (aL (ab:l.length - 1<l.length))
 unfold LotOk at this;dsimp only at h2;omega
def In(a0:Int)(f:FlV):Bool:=dB (f.m.step=a0∧f.m.to=0)
def Im(a0:Int)(l:List FlV):List Int:=(l.filter (In a0)).map (fun f=>f.m.id)
structure RW (S:LedM) (y:RLX) (W:Wk):Prop where
 cat:y.cat.m=S.cat
 catB:y.cat.B
 steps:y.steps.map StV.m=S.steps
 flows:y.flows.map FlV.m=S.flows++W.flows
 lots:∀a i,(ng y.stks a i).lots=W.stk a i
 sum:∀i,rsum y.stks i=W.tot i
 ok:rOk y.stks
 len:y.stks.length≤2*y.flows.length
 dist:qt y.stks
 sunk:Im (bu S) y.flows=W.sunk
structure MvFitR (k:Nat) (m:MvM):Prop where
 item:0≤m.item∧m.item<k
 n:1≤m.n∧m.n≤1099511627776
 frm:accP m.frm
 to:accP m.to
 ne:m.frm≠m.to
 parts:m.parts.length=0
structure RF (S:LedM) (x:RLX):Prop where
 cat:x.cat.m=S.cat
 catB:x.cat.B
 steps:x.steps.map StV.m=S.steps
 flows:x.flows.map FlV.m=S.flows
 lots:∀a i,(ng x.stks a i).lots=S.stk a i
 sum:∀i,rsum x.stks i=S.tot i
 ok:rOk x.stks
 len:x.stks.length≤2*x.flows.length
 dist:qt x.stks
 fstep:∀f∈S.flows,f.step<bu S
 now:0≤S.now
