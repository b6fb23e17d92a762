/- Lemmas. -/
import Derived.Test.YtlgpgjdggilkgaaGreatDoorEcax
set_option linter.all false
set_option maxHeartbeats 4000000
namespace Go.Proofs.YtlgpgjdggilkgaaGreatDoor
open Go.V
attribute [local irreducible] G GO GP GPW GPK GF GE Ev Ef EfR Ent CB GB V.Enters
def xV{L:LH}(b:Nat)(s:StV)[hr:Rds L s.mad MvV cj 5 s.moves](hn:∀m∈s.moves,0≤m.m.n)(hl:s.moves.length≤1000000) :
  Tri Tryz.prog 274 #[ax b,aU (dQ s)] L (rtQ (.bool (dB (ka s.m))) L):=by
 have a0:s.m.moves.length=s.moves.length:=by show(s.moves.map MvV.m).length=_;rw[an]
 refine Tri.bd ?_;simp only[dQ];by_cases c1:s.rule = -1
 case neg =>
  rw[aW (show ¬ka s.m from fun q=>c1 q.1)];refine Ks ?_;intros;exact KX.en ⟨rfl,rfl⟩
 refine Ks ?_;intros;refine GO.cr (qn s.times) ?_;by_cases c2:kc s.times
 case neg =>
  rw[aW c2,aW (show ¬ka s.m from fun q=>c2 q.2.1)];refine Ks ?_;intros;exact KX.en ⟨rfl,rfl⟩
 rw[bE c2];by_cases c3:s.moves.length=2
 case neg =>
  rw[aW (show ¬ka s.m from fun q=>c3 (a0.symm.trans q.2.2.1))];refine Ks ?_;intros;exact KX.en ⟨rfl,rfl⟩
 have e0:s.m.moves[0]! = s.moves[0]!.m:=iZ _ (ab:0<s.moves.length);have e1:s.m.moves[1]! = s.moves[1]!.m:=iZ _ (ab:1<s.moves.length);have n0:=hn _ (aV (ab:0<s.moves.length));have n1:=hn _ (aV (ab:1<s.moves.length))
 have e:ka s.m↔s.moves[0]!.m.to=0∧s.moves[1]!.m.frm=0∧s.moves[1]!.m.to=s.moves[0]!.m.frm∧s.moves[0]!.m.n % s.times=0∧s.moves[1]!.m.n % s.times=0:=by
  unfold ka;rw[e0,e1];exact⟨fun q=>q.2.2.2,fun q=>⟨c1,c2,a0.trans c3,q⟩⟩
 unfold kc at c2;have t0:(0:Int).toNat=0:=rfl;have t1:(1:Int).toNat=1:=rfl;have i0:(0:Int).toNat<s.moves.length:=ab;have i1:(1:Int).toNat<s.moves.length:=ab;rw[←t0] at e n0;rw[←t1] at e n1;rw[FX e];clear e0 e1 e;repeat first|refine G.sn 3 ?_|refine dq ?_|intro
 rename_i b1;refine G.c7 (α:=Nat×Nat) (fun _=>True) (fun g=>[(3,ax b1),(5,.pointer (some ⟨g.1,0,none⟩)),(6,.pointer (some ⟨g.2,0,none⟩))]) (fun g=>obj g.1 tMv (cj s.moves[(0:Int).toNat]!)::obj g.2 tMv (cj s.moves[(1:Int).toNat]!)::obj b1 ik [ac s.id,ac s.kind,ac s.actor,ac s.tick,ac s.rule,ac s.times,ag s.mad s.moves.length s.mcap]::L) ?_ ?_
 ·refine G.d9 mixed krStd0 ?_;refine GF.evP (i:=0) rfl krStd0 (Ev.fieldAddr rfl) ae ?_;refine GF.evL (i:=1) rfl krStd0 (Ev.c8 rfl rfl) ae ?_;refine GF.evL (i:=2) rfl krStd0 (Ev.indexAddr rfl rfl ab ab ab) ae ?_;refine GF.evL (i:=3) rfl krStd0 (Ev.d8 rfl ab) ae ?_;refine GF.evP (i:=4) rfl krStd0 (Ev.fieldAddr rfl) ae ?_;refine GF.evL (i:=5) rfl krStd0 (Ev.c8 rfl rfl) ae ?_;refine GF.evL (i:=6) rfl krStd0 (Ev.indexAddr rfl rfl ab ab ab) ae ?_;refine GF.evL (i:=7) rfl krStd0 (Ev.d8 rfl ab) ae ?_;refine GF.a8 8 9 krStd0 ?_ ?_
  ·refine GE.ef rfl Ef.alloc ae ?_;rintro _ _⟨b3,rfl,rfl⟩;refine⟨(by intro pe hp;simp only[dJ,ay,or_false] at hp;rcases hp with rfl|rfl|rfl|rfl|rfl|rfl<;>first|exact Ev.c8 rfl rfl|exact Ev.indexAddr rfl rfl ab ab ab|exact Ev.d8 rfl ab),?_⟩;refine GF.plan [.ef 9,.ef 10,.ef 11] krStd0 rfl ?_;refine Ks ?_;intros;exact⟨(b3,_),trivial,aC,by exact ah⟩
  ·refine GE.ef rfl Ef.alloc ae ?_;rintro _ _⟨b4,rfl,rfl⟩;refine⟨(by intro pe hp;simp only[dJ,ay,or_false] at hp;rcases hp with rfl|rfl|rfl|rfl|rfl|rfl<;>first|exact Ev.c8 rfl rfl|exact Ev.indexAddr rfl rfl ab ab ab|exact Ev.d8 rfl ab),?_⟩;refine GF.plan [.ef 8,.ef 10,.ef 11] krStd0 rfl ?_;refine Ks ?_;intros;exact⟨(_,b4),trivial,aC,by exact ah⟩
 rintro⟨b3,b4⟩ _;generalize s.moves[(0:Int).toNat]! = m0 at *;generalize s.moves[(1:Int).toNat]! = m1 at *;simp only[cj];by_cases d1:m0.m.to=0
 case neg =>
  refine Ks ?_;intros;exact KX.a8 aA ah ⟨by rw[aW (fun h=>d1 h.1)];rfl,rfl⟩
 by_cases d2:m1.m.frm=0
 case neg =>
  refine Ks ?_;intros;exact KX.a8 aA ah ⟨by rw[aW (fun h=>d2 h.2.1)];rfl,rfl⟩
 by_cases d3:m1.m.to=m0.m.frm
 case neg =>
  refine Ks ?_;intros;exact KX.a8 aA ah ⟨by rw[aW (fun h=>d3 h.2.2.1)];rfl,rfl⟩
 by_cases d4:m0.m.n % s.times=0
 case neg =>
  refine Ks ?_;intros;exact KX.a8 aA ah ⟨by rw[aW (fun h=>d4 h.2.2.2.1)];rfl,rfl⟩
 refine Ks ?_;intros;refine KX.a8 aA ah ⟨?_,rfl⟩;by_cases d5:m1.m.n % s.times=0
 ·rw[bE d5,bE ⟨d1,d2,d3,d4,d5⟩];rfl
 ·rw[aW d5,aW (fun h=>d5 h.2.2.2.2)];rfl
def kq(k:Nat)(fp tp:Int→Bool)(st:Bool)(m:MvM):Prop :=
 (0≤m.item∧m.item<k)∧(1≤m.n∧m.n≤1099511627776)∧accP m.frm∧accP m.to∧m.frm≠m.to∧fp m.frm=true∧tp m.to=true∧(if st=true then iT m.parts m.n else m.parts.length=0)
noncomputable instance (a b c d e):Decidable (kq a b c d e):=Classical.propDecidable _
abbrev zW:=XF [.ev 17,.ev 18,.ev 19,.ev 20,.ev 21,.ev 22,.ev 23,.ev 24,.ev 25,.ev 26,.ef 27,.ev 28,.ev 29,.ev 30,.ev 31,.ev 32,.ef 33,.ev 34,.ev 35,.ev 36,.ev 37,.ev 38,.ev 39,.ev 40,.ev 41,.ev 42,.ev 43,.ev 44,.ev 45,.ev 46,.ev 47,.ef 48,.ev 49,.ev 50,.ev 51,.ev 52,.ev 53,.ev 54,.ev 55,.ef 56,.ev 57,.ev 58]
abbrev zV:List Stp:=[.ev 0,.ev 1,.ef 2,.ev 3,.ev 4,.ev 5,.ev 7,.ev 8,.ef 6,.ev 9,.ev 10,.ev 11,.ev 12,.ev 13,.ev 16,.ev 17,.ef 14,.ef 15,.ev 18,.ev 19,.ev 20]
def OD{φ ψ:Prop}(k:ψ)(h:Hid ψ→φ:=by intro k;(repeat (first|refine aa ?_|intro zzz|refine G.dr 93 1 zW ?_|refine G.dr 93 5 zV ?_));(repeat revert zzz);exact Hid.out k):φ:=h ⟨k⟩
def DS{L R:LH}{b:Nat}{sh:Int}{x:LedX}[hp:PickObj L b tLed (bW sh x) R](ff tf wf:FuncId)(fp tp:Int→Bool)(st:Bool)(hf:Asks ff fp)(ht:Asks tf tp)(m:MvV)[hr:Rds L m.pad Lot aG 3 m.m.parts](hm:m.m.parts.length≤9223372036854775807)(hl:x.cat.items.length≤64) :
  Tri Tryz.prog 190 #[ax b,aU (cj m),.agg #[.func (.func ff) #[] #[],.func (.func tf) #[] #[],.bool st,.func (.func wf) #[] #[]]] L (rtQ (.bool (dB (kq x.cat.items.length fp tp st m.m))) L):=by
 obtain⟨⟨frm,to,item,n,parts⟩,pad,pcap⟩:=m;dsimp only at hr hm;have a0:∀{p:Prop},¬p→(kq x.cat.items.length fp tp st ⟨frm,to,item,n,parts⟩→p)→dB (kq x.cat.items.length fp tp st ⟨frm,to,item,n,parts⟩)=false:=fun h q=>aW (fun r=>h (q r));refine Tri.bd (args:=[ax b,aU (cj ⟨⟨frm,to,item,n,parts⟩,pad,pcap⟩),.agg #[.func (.func ff) #[] #[],.func (.func tf) #[] #[],.bool st,.func (.func wf) #[] #[]]]) ?_;by_cases h1:0≤item
 case neg =>
  refine OD ?_;intros;exact KX.a8 aA ah ⟨by rw[a0 h1 (fun h=>h.1.1)];rfl,rfl⟩
 by_cases h2:item<x.cat.items.length
 case neg =>
  refine OD ?_;intros;exact KX.a8 aA ah ⟨by rw[a0 h2 (fun h=>h.1.2)];rfl,rfl⟩
 by_cases h3:1≤n
 case neg =>
  refine OD ?_;intros;exact KX.a8 aA ah ⟨by rw[a0 h3 (fun h=>h.2.1.1)];rfl,rfl⟩
 by_cases h4:n≤1099511627776
 case neg =>
  refine OD ?_;intros;exact KX.a8 aA ah ⟨by rw[a0 h4 (fun h=>h.2.1.2)];rfl,rfl⟩
 refine OD ?_;intros;refine GPW.cr (oY frm) ?_;by_cases h5:accP frm
 case neg =>
  rw[aW h5];refine OD ?_;intros;exact KX.a8 aA ah ⟨by rw[a0 h5 (fun h=>h.2.2.1)];rfl,rfl⟩
 rw[bE h5];refine OD ?_;intros;refine GPW.cr (oY to) ?_;by_cases h6:accP to
 case neg =>
  rw[aW h6];refine OD ?_;intros;exact KX.a8 aA ah ⟨by rw[a0 h6 (fun h=>h.2.2.2.1)];rfl,rfl⟩
 rw[bE h6];by_cases h7:frm=to
 case pos =>
  refine OD ?_;intros;exact KX.a8 aA ah ⟨by rw[a0 (fun q:frm≠to=>q h7) (fun h=>h.2.2.2.2.1)];rfl,rfl⟩
 refine OD ?_;intros;refine GPW.ef (Ef.c7 rfl rfl (hf frm _)) ae ?_;rintro _ _⟨rfl,rfl⟩;cases h8:fp frm with
 | false =>
  refine OD ?_;intros;exact KX.a8 aA ah ⟨by rw[a0 (show ¬fp frm=true by rw[h8];decide) (fun h=>h.2.2.2.2.2.1)];rfl,rfl⟩
 | true =>
 refine OD ?_;intros;refine GPW.ef (Ef.c7 rfl rfl (ht to _)) ae ?_;rintro _ _⟨rfl,rfl⟩;cases h9:tp to with
 | false =>
  refine OD ?_;intros;exact KX.a8 aA ah ⟨by rw[a0 (show ¬tp to=true by rw[h9];decide) (fun h=>h.2.2.2.2.2.2.1)];rfl,rfl⟩
 | true =>
 cases st with
 | false =>
  have e:kq x.cat.items.length fp tp false ⟨frm,to,item,n,parts⟩↔parts.length=0:=⟨fun h=>h.2.2.2.2.2.2.2,fun h=>⟨⟨h1,h2⟩,⟨h3,h4⟩,h5,h6,h7,h8,h9,h⟩⟩;refine OD ?_;intros;refine KX.a8 aA ah ⟨?_,rfl⟩;by_cases a1:parts.length=0
  ·rw[bE (ab:((parts.length:Nat):Int)=0),bE (e.2 a1)];rfl
  ·rw[aW (ab:¬((parts.length:Nat):Int)=0),aW (fun h=>a1 (e.1 h))];rfl
 | true =>
 have e:kq x.cat.items.length fp tp true ⟨frm,to,item,n,parts⟩↔iT parts n:=⟨fun h=>h.2.2.2.2.2.2.2,fun h=>⟨⟨h1,h2⟩,⟨h3,h4⟩,h5,h6,h7,h8,h9,h⟩⟩;refine OD ?_;intros;refine GPW.cr (xS pad parts.length pcap parts rfl hm) ?_;by_cases c1:eQ parts
 case neg =>
  rw[aW c1];refine OD ?_;intros;exact KX.a8 aA ah ⟨by rw[aW (fun h=>c1 (e.1 h).1)];rfl,rfl⟩
 rw[bE c1];refine OD ?_;intros;refine GPW.cr (jy pad parts.length pcap parts rfl c1.2 c1.1) ?_;by_cases c2:lsum parts=n
 case neg =>
  refine OD ?_;intros;exact KX.a8 aA ah ⟨by rw[aW (fun h=>c2 (e.1 h).2.2)];rfl,rfl⟩
 refine OD ?_;intros;refine GPW.ca (jf pad parts.length pcap parts rfl (by have:=c1.2;omega) c1.1) ?_;rintro _ _⟨a3,zc,ys,rfl,a2,rfl⟩;obtain⟨s1,s2,s3,_⟩:=kr a2 c1.1;refine OD ?_;intros;refine GPW.cr (nR a3 (zset ys).length zc (zset ys) rfl (by have:=c1.2;omega) s1.ok) ?_;refine OD ?_;intros;refine KX.a8 aA ah ⟨?_,rfl⟩
 have e2:kq x.cat.items.length fp tp true ⟨frm,to,item,n,parts⟩↔lsum (zset ys)=n:=by
  rw[e];constructor
  ·rintro⟨_,q,_⟩;rw[s3.2 q,c2]
  ·intro q;exact⟨c1,s3.1 (q.trans c2.symm),c2⟩
 rw[FX e2];rfl
end Go.Proofs.YtlgpgjdggilkgaaGreatDoor
namespace Go.V
section
variable {P:Program}{N:Nat}{env:Env}{L:LH}{K:Post}
def Ent.under{A:LH}{p:HP}(h:Ent L (p::L)):Ent (A++L) (p::(A++L)) :=
 (Ent.append (Ent.refl A) h).trans (Ent.perm dX)
end
end Go.V
namespace Go.Proofs.YtlgpgjdggilkgaaGreatDoor
section
open Go.V
attribute [local irreducible] G GO GP GPW GPK GF GE Ev Ef EfR Ent CB GB V.Enters
def kF(k:Int):Int→Bool:=if k=0∨k=5 then(fun n=>dB (n=0)) else if k=4∨k=10∨k=9 then(fun _=>true) else(fun n=>dB (¬n=0))
def kT(k:Int):Int→Bool:=if k=1∨k=6 then(fun n=>dB (n=0)) else if k=4∨k=10∨k=7 then(fun _=>true) else(fun n=>dB (¬n=0))
def kS(k:Int):Bool:=if k=5∨k=7∨k=9 then true else false
def kW(k:Int):FuncId:=if k=4 then 273 else if k=10 then 274 else 271
abbrev Kg(ff tf wf:FuncId)(st:Bool):Value:=.agg #[.func (.func ff) #[] #[],.func (.func tf) #[] #[],.bool st,.func (.func wf) #[] #[]]
def Fe{n:Nat}{k:Int}{m:MvM}(hk:0≤k∧k≤10):mvAP n k m↔kq n (kF k) (kT k) (kS k) m:=by
 have eF:kF k m.frm=true↔(if k=0∨k=5 then m.frm=0 else if k=4∨k=10∨k=9 then True else ¬m.frm=0):=by
  unfold kF;by_cases a:k=0∨k=5
  ·rw[if_pos a,if_pos a,dK,decide_eq_true_iff]
  ·rw[if_neg a,if_neg a];by_cases b:k=4∨k=10∨k=9
   ·rw[if_pos b,if_pos b];simp
   ·rw[if_neg b,if_neg b,dK,decide_eq_true_iff]
 have eT:kT k m.to=true↔(if k=1∨k=6 then m.to=0 else if k=4∨k=10∨k=7 then True else ¬m.to=0):=by
  unfold kT;by_cases a:k=1∨k=6
  ·rw[if_pos a,if_pos a,dK,decide_eq_true_iff]
  ·rw[if_neg a,if_neg a];by_cases b:k=4∨k=10∨k=7
   ·rw[if_pos b,if_pos b];simp
   ·rw[if_neg b,if_neg b,dK,decide_eq_true_iff]
 have eS:(if kS k=true then iT m.parts m.n else m.parts.length=0)↔(if k=5∨k=7∨k=9 then iT m.parts m.n else m.parts.length=0):=by
  unfold kS;by_cases a:k=5∨k=7∨k=9
  ·rw[if_pos a,if_pos rfl,if_pos a]
  ·rw[if_neg a,if_neg ae,if_neg a]
 unfold mvAP kq pj;rw[eF,eT,eS];generalize iT m.parts m.n=PA;generalize m.parts.length=pl;unfold accP;rcases (by omega:k=0∨k=1∨k=2∨k=3∨k=4∨k=5∨k=6∨k=7∨k=8∨k=9∨k=10) with rfl|rfl|rfl|rfl|rfl|rfl|rfl|rfl|rfl|rfl|rfl<;>simp<;>intros<;>omega
noncomputable instance decTail (a:List RuM) (b:StM):Decidable (jE a b):=Classical.propDecidable _
def DR{L:LH}(k:Int)(hk:0≤k∧k≤10):Tri Tryz.prog 187 #[ac k] L (fun v L'=>∃ff tf,v=.tuple #[Kg ff tf (kW k) (kS k),.bool true]∧(Asks ff (kF k)∧Asks tf (kT k))∧L' = L):=by
 rcases (by omega:k=0∨k=1∨k=2∨k=3∨k=4∨k=5∨k=6∨k=7∨k=8∨k=9∨k=10) with rfl|rfl|rfl|rfl|rfl|rfl|rfl|rfl|rfl|rfl|rfl
 ·refine Tri.bd (args:=[ac 0]) ?_;refine Ks ?_;intros;exact KX.a8 (by exact ResOk.cell rfl aQ (ResOk.tmp rfl (ResOk.nil))) ah ⟨_,_,rfl,⟨nP,gW⟩,rfl⟩
 ·refine Tri.bd (args:=[ac 1]) ?_;refine Ks ?_;intros;exact KX.a8 (by exact ResOk.cell rfl aQ (ResOk.tmp rfl (ResOk.nil))) ah ⟨_,_,rfl,⟨gW,nP⟩,rfl⟩
 ·refine Tri.bd (args:=[ac 2]) ?_;refine Ks ?_;intros;exact KX.a8 (by exact ResOk.cell rfl aQ (ResOk.tmp rfl (ResOk.nil))) ah ⟨_,_,rfl,⟨gW,gW⟩,rfl⟩
 ·refine Tri.bd (args:=[ac 3]) ?_;refine Ks ?_;intros;exact KX.a8 (by exact ResOk.cell rfl aQ (ResOk.tmp rfl (ResOk.nil))) ah ⟨_,_,rfl,⟨gW,gW⟩,rfl⟩
 ·refine Tri.bd (args:=[ac 4]) ?_;refine Ks ?_;intros;exact KX.a8 (by exact ResOk.cell rfl aQ (ResOk.tmp rfl (ResOk.nil))) ah ⟨_,_,rfl,⟨mM,mM⟩,rfl⟩
 ·refine Tri.bd (args:=[ac 5]) ?_;refine Ks ?_;intros;exact KX.a8 (by exact ResOk.cell rfl aQ (ResOk.tmp rfl (ResOk.nil))) ah ⟨_,_,rfl,⟨nP,gW⟩,rfl⟩
 ·refine Tri.bd (args:=[ac 6]) ?_;refine Ks ?_;intros;exact KX.a8 (by exact ResOk.cell rfl aQ (ResOk.tmp rfl (ResOk.nil))) ah ⟨_,_,rfl,⟨gW,nP⟩,rfl⟩
 ·refine Tri.bd (args:=[ac 7]) ?_;refine Ks ?_;intros;exact KX.a8 (by exact ResOk.cell rfl aQ (ResOk.tmp rfl (ResOk.nil))) ah ⟨_,_,rfl,⟨gW,mM⟩,rfl⟩
 ·refine Tri.bd (args:=[ac 8]) ?_;refine Ks ?_;intros;exact KX.a8 (by exact ResOk.cell rfl aQ (ResOk.tmp rfl (ResOk.nil))) ah ⟨_,_,rfl,⟨gW,gW⟩,rfl⟩
 ·refine Tri.bd (args:=[ac 9]) ?_;refine Ks ?_;intros;exact KX.a8 (by exact ResOk.cell rfl aQ (ResOk.tmp rfl (ResOk.nil))) ah ⟨_,_,rfl,⟨mM,gW⟩,rfl⟩
 ·refine Tri.bd (args:=[ac 10]) ?_;refine Ks ?_;intros;exact KX.a8 (by exact ResOk.cell rfl aQ (ResOk.tmp rfl (ResOk.nil))) ah ⟨_,_,rfl,⟨mM,mM⟩,rfl⟩
def DQ{L:LH}(k:Int)(hk:¬(0≤k∧k≤10)):Tri Tryz.prog 187 #[ac k] L (rtQ (.tuple #[.agg #[.nilFunc,.nilFunc,.bool false,.nilFunc],.bool false]) L):=by
 by_cases h:k<0
 ·refine Tri.bd ?_;refine Ks ?_;intros;exact KX.a8 (by exact ResOk.cell rfl aQ (ResOk.tmp rfl (ResOk.nil))) ah ⟨rfl,rfl⟩
 ·have h2:10<k:=ab;refine Tri.bd ?_;refine Ks ?_;intros;exact KX.a8 (by exact ResOk.cell rfl aQ (ResOk.tmp rfl (ResOk.nil))) ah ⟨rfl,rfl⟩
abbrev zU:=XA [.ev 4,.ef 5,.ev 6,.ev 7,.ev 8,.ev 9,.ev 10,.ev 11,.ev 12,.ev 13,.ev 14,.ev 15,.ev 16,.ev 17,.ev 18,.ev 19,.ev 20,.ev 21,.ef 22,.ev 23,.ev 24,.ev 25,.ev 26,.ev 27,.ev 28,.ev 29,.ev 30,.ev 31,.ev 32,.ev 33,.ev 34,.ev 35,.ev 36]
def Pa{φ ψ:Prop}(k:ψ)(h:Hid ψ→φ:=by intro k;(repeat (first|refine aa ?_|intro zzz|refine G.dr 70 2 zU ?_));(repeat revert zzz);exact Hid.out k):φ:=h ⟨k⟩
def Cy{L R:LH}{b:Nat}{sh:Int}{x:LedX}[hp:PickObj L b tLed (bW sh x) R][hr:Rds L x.sad StV dQ 7 x.steps](s:StV)[c1:Rds L s.mad MvV cj 5 s.moves](b8:∀m∈s.moves,m.m.parts.length≤9223372036854775807)(hc:x.cat.m.Ok)(hB:x.cat.B)(c2:x.steps.length≤65536)(b7:s.moves.length≤1000000)(a6:s.moves.length≤s.mcap)(hI:I64 s.rule)(h0:0≤xnow x) :
  Tri Tryz.prog 132 #[ax b,aU (dQ s)] (catP x.cat::stP s::L) (rtQ (.bool (dB (gY x.cat.m (xnow x) s.m))) (catP x.cat::stP s::L)):=by
 have b4:=hB.items;have c0:s.m.moves.length=s.moves.length:=by simp[StV.m]
 have hA:=possG_A (c:=x.cat.m) (now:=xnow x) (s:=s.m);have a1:∀{p:Prop},¬p→(gY x.cat.m (xnow x) s.m→p)→dB (gY x.cat.m (xnow x) s.m)=false:=fun h q=>aW (fun r=>h (q r));refine Tri.bd ?_;refine Pa ?_;intros;rename_i b3;by_cases hk:0≤s.kind∧s.kind≤10
 case neg =>
  refine GO.cr (DQ s.kind hk) ?_;refine Pa ?_;intros;exact KX.a8 aA ah ⟨by rw[a1 hk (fun h=>(hA.1 h).1)];rfl,rfl⟩
 refine GO.ca (DR s.kind hk) ?_;rintro _ _⟨ff,tf,rfl,⟨b0,b9⟩,rfl⟩;refine Pa ?_;intros;rename_i b5;refine GPW.cr (oY s.actor) ?_;by_cases h1:accP s.actor
 case neg =>
  rw[aW h1];refine Pa ?_;intros;exact KX.a8 aA ah ⟨by rw[a1 h1 (fun h=>(hA.1 h).2.1)];rfl,rfl⟩
 rw[bE h1];by_cases h2:0≤s.tick
 case neg =>
  refine Pa ?_;intros;exact KX.a8 aA ah ⟨by rw[a1 h2 (fun h=>Int.le_trans h0 (hA.1 h).2.2.1.1)];rfl,rfl⟩
 by_cases h3:s.tick≤1099511627776
 case neg =>
  refine Pa ?_;intros;exact KX.a8 aA ah ⟨by rw[a1 h3 (fun h=>(hA.1 h).2.2.1.2)];rfl,rfl⟩
 refine Pa ?_;intros;refine GPW.cr (Fh (b:=b) (sh:=sh) (x:=x) ab) ?_;rw[show(x.steps.getLast?.map (·.tick)).getD 0=xnow x from rfl];by_cases h4:xnow x≤s.tick
 case neg =>
  refine Pa ?_;intros;exact KX.a8 aA ah ⟨by rw[a1 h4 (fun h=>(hA.1 h).2.2.1.1)];rfl,rfl⟩
 by_cases h5:1≤s.moves.length
 case neg =>
  refine Pa ?_;intros;exact KX.a8 aA ah ⟨by rw[a1 h5 (fun h=>by have:=(hA.1 h).2.2.2.1.1;omega)];rfl,rfl⟩
 by_cases h6:s.moves.length≤64
 case neg =>
  refine Pa ?_;intros;exact KX.a8 aA ah ⟨by rw[a1 h6 (fun h=>by have:=(hA.1 h).2.2.2.1.2;omega)];rfl,rfl⟩
 refine Pa ?_;intros;refine G.loop (α:=Nat) (fun i=>i≤s.moves.length∧∀j:Nat,j<i→kq x.cat.items.length (kF s.kind) (kT s.kind) (kS s.kind) s.moves[j]!.m) (fun i=>[(0,ax b),(3,ax b3),(4,.bool false),(5,ax b5),(53,ag s.mad s.moves.length s.mcap),(54,ac (s.moves.length:Int)),(55,ac (i:Int))]) (fun _=>obj b5 HI [.func (.func ff) #[] #[],.func (.func tf) #[] #[],.bool (kS s.kind),.func (.func (kW s.kind)) #[] #[]]::obj b3 ik (dQ s)::catP x.cat::stP s::L) (fun i=>s.moves.length - i) 0 ⟨aw _,fun j h=>absurd h ab⟩ aC (Ent.refl _) ?_;rintro i ⟨hi,a9⟩;by_cases b6:i<s.moves.length
 case neg =>
  have b1:i=s.moves.length:=ab;subst b1
  have a4:∀m∈s.moves,kq x.cat.items.length (kF s.kind) (kT s.kind) (kS s.kind) m.m:=by
   intro m hm;obtain⟨j,hj,rfl⟩:=List.mem_iff_getElem.1 hm;have:=a9 j hj
   rw[getElem!_of hj] at this;exact this
  have a5:∀m∈s.m.moves,mvAP x.cat.m.items.length s.m.kind m:=by
   intro m hm;obtain⟨v,hv,rfl⟩:=List.mem_map.1 (show m∈s.moves.map MvV.m from hm);exact(Fe hk).2 (a4 v hv)
  have a7:dB (gY x.cat.m (xnow x) s.m)=dB (jE x.cat.m.rules s.m):=by
   by_cases hw:jE x.cat.m.rules s.m
   ·rw[bE hw,bE (hA.2 ⟨hk,h1,⟨h4,h3⟩,⟨ab,ab⟩,a5,hw⟩)]
   ·rw[aW hw,aW (fun h=>hw (hA.1 h).2.2.2.2.2)]
  rw[a7];refine Pa ?_;intros;by_cases a3:s.kind=4
  ·have e1:kW s.kind=273:=by unfold kW;rw[if_pos a3]
   have e2:dB (jE x.cat.m.rules s.m)=dB (jv x.cat.m.rules s.rule s.times (s.moves.map MvV.m)):=by
    have e:jE x.cat.m.rules s.m=jv x.cat.m.rules s.rule s.times (s.moves.map MvV.m):=by unfold jE;exact if_pos a3
    by_cases hw:jv x.cat.m.rules s.rule s.times (s.moves.map MvV.m)
    ·rw[bE hw,bE (e▸hw)]
    ·rw[aW hw,aW (e▸hw)]
   rw[e1,e2];refine GO.ent (Ent.at (A:=catP x.cat) (Ent.refl _)) ?_;refine GO.ef (Ef.c7 rfl rfl (yb (b:=b) (sh:=sh) (x:=x) s hc hB h6 a6 hI)) ae ?_;rintro _ _⟨rfl,rfl⟩;refine Pa ?_;intros;exact KX.en ⟨rfl,rfl⟩
  by_cases a0:s.kind=10
  ·have e1:kW s.kind=274:=by unfold kW;rw[if_neg a3,if_pos a0]
   have e2:dB (jE x.cat.m.rules s.m)=dB (ka s.m):=by
    have e:jE x.cat.m.rules s.m=ka s.m:=by unfold jE;exact(if_neg a3).trans (if_pos a0)
    by_cases hw:ka s.m
    ·rw[bE hw,bE (e▸hw)]
    ·rw[aW hw,aW (e▸hw)]
   rw[e1,e2];refine GO.ef (Ef.c7 rfl rfl (xV b s (fun m hm=>by have:=(a4 m hm).2.1.1;omega) b7)) ae ?_;rintro _ _⟨rfl,rfl⟩;refine Pa ?_;intros;exact KX.en ⟨rfl,rfl⟩
  ·have e1:kW s.kind=271:=by unfold kW;rw[if_neg a3,if_neg a0]
   have e2:dB (jE x.cat.m.rules s.m)=dB (kP s.rule s.times):=by
    have e:jE x.cat.m.rules s.m=kP s.rule s.times:=by unfold jE;exact(if_neg a3).trans (if_neg a0)
    by_cases hw:kP s.rule s.times
    ·rw[bE hw,bE (e▸hw)]
    ·rw[aW hw,aW (e▸hw)]
   rw[e1,e2];refine GO.ef (Ef.c7 rfl rfl (ya b s)) ae ?_;rintro _ _⟨rfl,rfl⟩;refine Pa ?_;intros;exact KX.en ⟨rfl,rfl⟩
 have b2:(i:Int).toNat=i:=ab;have a2:=aV b6;refine G.ent (L':=isl aG 3 s.moves[i]!.pad s.moves[i]!.m.parts::obj b5 HI [.func (.func ff) #[] #[],.func (.func tf) #[] #[],.bool (kS s.kind),.func (.func (kW s.kind)) #[] #[]]::obj b3 ik (dQ s)::catP x.cat::stP s::L) ((Ent.at (A:=stP s) (Ent.c9 (f:=mvP) a2)).trans ah) ?_;refine Pa ?_;intros;rw[b2];refine GO.cr (DS (b:=b) (sh:=sh) (x:=x) ff tf (kW s.kind) (kF s.kind) (kT s.kind) (kS s.kind) b0 b9 s.moves[i]! (b8 _ a2) b4) ?_;by_cases h7:kq x.cat.items.length (kF s.kind) (kT s.kind) (kS s.kind) s.moves[i]!.m
 case neg =>
  rw[aW h7];refine Pa ?_;intros;refine KX.a8 aA ah ⟨?_,rfl⟩;rw[a1 h7 (fun h=>(Fe hk).1 ((hA.1 h).2.2.2.2.1 s.moves[i]!.m (alStd0List_mem_map_of_mem a2)))];rfl
 rw[bE h7];refine Pa ?_;intros;refine⟨i+1,⟨ab,?_⟩,ab,?_,by exact ah⟩
 ·intro j hj;rcases fc j i with h|h
  ·exact a9 j h
  ·obtain rfl:j=i:=ab;exact h7
 ·rw[bh i];exact aC
end
section
open Go.V
structure ChG where
 cs:Nat
 ct:Nat
 ci:Nat
 cr:Nat
 stk:List ((Int×Int)×Stk)
 tot:List (Int×Int)
 imp:List (Int×Stk)
 ret:List (Int×Stk)
 flows:List FlV
 fad:OA
 fcap:Nat
 sunk:List Int
 kad:OA
 kcap:Nat
abbrev ck(b:Nat)(s:StV)(z:ChG):LV:=[ax b,ac s.id,ac s.kind,ac s.actor,ac s.tick,ac s.rule,ac s.times,ag s.mad s.moves.length s.mcap,.map (some z.cs),.map (some z.ct),.map (some z.ci),.map (some z.cr),ag z.fad z.flows.length z.fcap,ag z.kad z.sunk.length z.kcap]
abbrev chgL(b bc:Nat)(s:StV)(z:ChG)(L:LH):LH :=
 obj bc tCh (ck b s z)::gmap kvP Stk.v z.cs z.stk::gmap kvI encN z.ct z.tot::gmap kvI Stk.v z.ci z.imp::gmap kvI Stk.v z.cr z.ret::osl dT 11 fQ z.fad z.fcap z.flows::osl (encZ .i64) 1 tInt z.kad z.kcap z.sunk::allP (fun p:(Int×Int)×Stk=>stkP p.2) z.stk::allP flP z.flows::allP (fun p:Int×Stk=>stkP p.2) z.imp::allP (fun p:Int×Stk=>stkP p.2) z.ret::L
def uOf{κ:Type}[DecidableEq κ](z x:List (κ×Stk))(k:κ):Stk:=(glk z k).getD (gI x k)
def qN{κ:Type}[DecidableEq κ]{z x:List (κ×Stk)}(k:κ){L:LH}:Ent (allP (fun p:κ×Stk=>stkP p.2) z::allP (fun p:κ×Stk=>stkP p.2) x::L) (stkP (uOf z x k)::allP (fun p:κ×Stk=>stkP p.2) z::allP (fun p:κ×Stk=>stkP p.2) x::L):=by
 unfold uOf;cases h:glk z k with
 | none=>exact(Ent.a8 (uZ k)).trans Ent.swap
 | some s=>exact Ent.c9 (f:=fun p:κ×Stk=>stkP p.2) (x:=(k,s)) (cu h)
def lx{κ:Type}[DecidableEq κ]{m:List (κ×Stk)}{k:κ}{s:Stk}{L:LH}:Ent (stkP s::allP (fun p:κ×Stk=>stkP p.2) m::L) (allP (fun p:κ×Stk=>stkP p.2) (gins m k s)::L) :=
 (Ent.j5 (f:=fun p:κ×Stk=>stkP p.2) (fun p=>ta p.2) (x:=(k,s)) (l:=m)).trans (Ent.g9 (l':=gins m k s) sq)
def kC{κ:Type}[DecidableEq κ]{z x:List (κ×Stk)}{k q:κ}{s:Stk}:uOf (gins z k s) x q=if q=k then s else uOf z x q:=by
 unfold uOf;rw[ij];split<;>rfl
structure SetS (g:Int→Stk) (l:LL):Prop where
 ok:∀f,SetOk (g f).lots
 cap:∀f,(g f).lots.length≤(g f).cap
 len:∀f,(g f).lots.length≤l.length
 ov:∀f t,LotOk t→t.1=f→OV (g f).lots t=OV (ofF l f) t
def wQ{g:Int→Stk}{l:LL}(h:SetS g l)(hl:∀y∈l,LotOk y){p:Lot}(hp:LotOk p):(∃y∈(g p.1).lots,¬apart y p)↔∃y∈ofF l p.1,ovP p y:=by
 rw[←ub (h.ok p.1).ok hp,h.ov p.1 p hp rfl,ub (fun y hy=>hl y (ofF_mem.1 hy).1) hp];constructor
 ·rintro⟨y,hy,hn⟩;have:=(ofF_mem.1 hy).2
  refine⟨y,hy,?_⟩;unfold apart at hn;unfold ovP;omega
 ·rintro⟨y,hy,hn⟩;have:=(ofF_mem.1 hy).2
  refine⟨y,hy,?_⟩;unfold ovP at hn;unfold apart;omega
def Br{set:LL}(hs:SetOk set){p:Lot}(hp:LotOk p):0<(pcI [p] set).length↔∃y∈set,¬apart y p:=by
 rw[←Jw hs hp];have e:pcI [p] set=(pcIn (pcs set p)).foldl bN []:=by unfold pcI;rw[yV]
 rw[e]
 have hw:∀x∈pcIn (pcs set p),1≤x.2.2:=fun x hx=>by
  obtain⟨q,hq,rfl⟩:=List.mem_map.1 hx;have:=(ES hs hp).1 q (List.mem_filter.1 hq).1
  unfold LotOk at this;omega
 generalize pcIn (pcs set p)=P at hw;cases P with
 | nil=>exact⟨fun h=>absurd h ae,fun h=>absurd rfl h⟩
 | cons x P =>
  have h1:=hw x av;have hx:bN [] x=[x]:=by unfold bN;rw[if_neg ab,if_neg (fun q=>q.1 rfl)];rfl
  have a0:∀(P l:LL),0<l.length→0<(P.foldl bN l).length:=by
   intro P;induction P with
   | nil=>intro l h;exact h
   | cons y P ih =>
    intro l h;refine ih _ ?_;unfold bN;split
    ·exact h
    ·split
     ·rw[bH];exact h
     ·rw[aj];omega
  refine⟨fun _ h=>(by cases h),fun _=>?_⟩;show 0<(P.foldl bN (bN [] x)).length;rw[hx];exact a0 P [x] (by rw[aI];exact Nat.one_pos)
def wR{g:Int→Stk}{l:LL}(h:SetS g l)(hl:∀y∈l,LotOk y){p:Lot}(hp:LotOk p)(hn:¬ ∃y∈(g p.1).lots,¬apart y p){ys:LL}(hy:gV hdC ((g p.1).lots++[p]) ys){g' : Int→Stk}(h1:(g' p.1).lots=zset ys)(hc:(zset ys).length≤(g' p.1).cap)(h2:∀f,f≠p.1→g' f=g f):SetS g' (l++[p]):=by
 have a1:∀x∈(g p.1).lots++[p],LotOk x:=fun x hx=>by
  rcases List.mem_append.1 hx with q|q
  ·exact(h.ok p.1).ok x q
  ·rw[List.mem_singleton.1 q];exact hp
 obtain⟨s1,s2,_,s4⟩:=kr hy a1;have ha:Apart ((g p.1).lots++[p]):=apart_snoc_iff.2 ⟨wI (h.ok p.1).sl,fun y hq=>Classical.byContradiction fun r=>hn ⟨y,hq,r⟩⟩;have a0:=h.len;refine⟨fun f=>?_,fun f=>?_,fun f=>?_,fun f t ht hf=>?_⟩
 ·by_cases e:f=p.1
  ·rw[e,h1];exact s1
  ·rw[h2 f e];exact h.ok f
 ·by_cases e:f=p.1
  ·rw[e,h1];exact hc
  ·rw[h2 f e];exact h.cap f
 ·rw[aj,aI];by_cases e:f=p.1
  ·rw[e,h1];have:=a0 p.1
   rw[aj,aI] at s2;omega
  ·rw[h2 f e];have:=a0 f
   omega
 ·rw[GU];by_cases e:f=p.1
  ·rw[e,h1,s4 ha t ht,gt,iN,if_pos rfl,gt,iN,h.ov p.1 t ht (hf.trans e)]
  ·rw[h2 f e,if_neg (fun q=>e q.symm)];exact h.ov f t ht hf
def GD:SetS (fun _=>⟨none,0,[]⟩) []:=⟨fun _=>⟨(fun y h=>by cases h),.nil⟩,fun _=>aq _,fun _=>aq _,fun _ _ _ _=>rfl⟩
attribute [local irreducible] G GO GP GPW GPK GF GE Ev Ef EfR Ent CB GB V.Enters
def sT{L R1 R2:LH}{mz mx:Nat}{z x:List (Int×Stk)}[a0:PickG L mz Int Stk kvI Stk.v z R1][a1:PickG L mx Int Stk kvI Stk.v x R2](f:Int) :
  Tri Tryz.prog 302 #[.map (some mz),.map (some mx),ac f] L (rtQ ((uOf z x f).v) L):=by
 refine Tri.bd ?_;refine Ks ?_;intros;refine GO.ev (Ev.a8 rfl rfl) ae ?_;cases h:@List.lookup _ _ instBEqOfDecidableEq f z with
 | some k =>
  simp only[eK,Option.getD_some,Option.isSome_some];refine Ks ?_;intros;refine KX.a8 aA ah ⟨?_,rfl⟩;unfold uOf glk;rw[h];rfl
 | none =>
  simp only[fj,fg,Option.isSome_none];refine Ks ?_;intros;refine GO.ev (Ev.f9 rfl rfl) ae ?_;rw[ui];refine Ks ?_;intros;refine KX.a8 aA ah ⟨?_,rfl⟩;unfold uOf glk;rw[h];rfl
