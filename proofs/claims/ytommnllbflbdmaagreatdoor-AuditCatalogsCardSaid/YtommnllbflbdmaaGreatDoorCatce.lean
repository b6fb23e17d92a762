/- Lemmas. -/
import Derived.Test.YtommnllbflbdmaaGreatDoorCatcc
import Derived.Test.YtommnllbflbdmaaGreatDoorCatbt
set_option linter.all false
set_option maxHeartbeats 8000000
namespace Go.Proofs.YtommnllbflbdmaaGreatDoor
section
open Go.V
attribute [local irreducible] G GO GP GPW GPK GF GE Ev Ef EfR Ent CB GB V.Enters
def xf{L:LH}(b:Nat)(s:StV)[hr:Rds L s.mad MvV aT 5 s.moves](hn:∀m∈s.moves,0≤m.m.n)(hl:s.moves.length≤1000000) :
  Tri ai 260 #[aq b,aN (aX s)] L (rtQ (.bool (dB (iF s.m))) L):=by
 have a0:s.m.moves.length=s.moves.length:=by show(s.moves.map MvV.m).length=_;rw[aA]
 refine Tri.bd ?_;simp only[aX];by_cases c1:s.rule = -1
 case neg =>
  rw[aM (show ¬iF s.m from fun q=>c1 q.1)];refine IF ?_;intros;exact KX.en ⟨rfl,rfl⟩
 refine IF ?_;intros;refine GO.cr (pH s.times) ?_;by_cases c2:ie s.times
 case neg =>
  rw[aM c2,aM (show ¬iF s.m from fun q=>c2 q.2.1)];refine IF ?_;intros;exact KX.en ⟨rfl,rfl⟩
 rw[aZ c2];by_cases c3:s.moves.length=2
 case neg =>
  rw[aM (show ¬iF s.m from fun q=>c3 (a0.symm.trans q.2.2.1))];refine IF ?_;intros;exact KX.en ⟨rfl,rfl⟩
 have e0:s.m.moves[0]! = s.moves[0]!.m:=eD _ (ab:0<s.moves.length);have e1:s.m.moves[1]! = s.moves[1]!.m:=eD _ (ab:1<s.moves.length);have n0:=hn _ (aL (ab:0<s.moves.length));have n1:=hn _ (aL (ab:1<s.moves.length))
 have e:iF s.m↔s.moves[0]!.m.to=0∧s.moves[1]!.m.frm=0∧s.moves[1]!.m.to=s.moves[0]!.m.frm∧s.moves[0]!.m.n % s.times=0∧s.moves[1]!.m.n % s.times=0:=by
  unfold iF;rw[e0,e1];exact⟨fun q=>q.2.2.2,fun q=>⟨c1,c2,a0.trans c3,q⟩⟩
 unfold ie at c2;have t0:(0:Int).toNat=0:=rfl;have t1:(1:Int).toNat=1:=rfl;have i0:(0:Int).toNat<s.moves.length:=ab;have i1:(1:Int).toNat<s.moves.length:=ab;rw[←t0] at e n0;rw[←t1] at e n1;rw[fU e];clear e0 e1 e;repeat first|refine G.sn 3 ?_|refine bF ?_|intro
 rename_i b1;refine G.d8 (α:=Nat×Nat) (fun _=>True) (fun g=>[(3,aq b1),(5,.pointer (some ⟨g.1,0,none⟩)),(6,.pointer (some ⟨g.2,0,none⟩))]) (fun g=>obj g.1 tMv (aT s.moves[(0:Int).toNat]!)::obj g.2 tMv (aT s.moves[(1:Int).toNat]!)::obj b1 cQ [ac s.id,ac s.kind,ac s.actor,ac s.tick,ac s.rule,ac s.times,ae s.mad s.moves.length s.mcap]::L) ?_ ?_
 ·refine G.f8 mixed krStd0 ?_;refine GF.evP (i:=0) rfl krStd0 (Ev.fieldAddr rfl) ag ?_;refine GF.evL (i:=1) rfl krStd0 (Ev.d9 rfl rfl) ag ?_;refine GF.evL (i:=2) rfl krStd0 (Ev.indexAddr rfl rfl ab ab ab) ag ?_;refine GF.evL (i:=3) rfl krStd0 (Ev.e8 rfl ab) ag ?_;refine GF.evP (i:=4) rfl krStd0 (Ev.fieldAddr rfl) ag ?_;refine GF.evL (i:=5) rfl krStd0 (Ev.d9 rfl rfl) ag ?_;refine GF.evL (i:=6) rfl krStd0 (Ev.indexAddr rfl rfl ab ab ab) ag ?_;refine GF.evL (i:=7) rfl krStd0 (Ev.e8 rfl ab) ag ?_;refine GF.d7 8 9 krStd0 ?_ ?_
  ·refine GE.ef rfl Ef.alloc ag ?_;rintro _ _⟨b3,rfl,rfl⟩;refine⟨(by intro pe hp;simp only[bh,aH,or_false] at hp;rcases hp with rfl|rfl|rfl|rfl|rfl|rfl<;>first|exact Ev.d9 rfl rfl|exact Ev.indexAddr rfl rfl ab ab ab|exact Ev.e8 rfl ab),?_⟩;refine GF.plan [.ef 9,.ef 10,.ef 11] krStd0 rfl ?_;refine IF ?_;intros;exact⟨(b3,_),trivial,an,by exact ah⟩
  ·refine GE.ef rfl Ef.alloc ag ?_;rintro _ _⟨b4,rfl,rfl⟩;refine⟨(by intro pe hp;simp only[bh,aH,or_false] at hp;rcases hp with rfl|rfl|rfl|rfl|rfl|rfl<;>first|exact Ev.d9 rfl rfl|exact Ev.indexAddr rfl rfl ab ab ab|exact Ev.e8 rfl ab),?_⟩;refine GF.plan [.ef 8,.ef 10,.ef 11] krStd0 rfl ?_;refine IF ?_;intros;exact⟨(_,b4),trivial,an,by exact ah⟩
 rintro⟨b3,b4⟩ _;generalize s.moves[(0:Int).toNat]! = m0 at *;generalize s.moves[(1:Int).toNat]! = m1 at *;simp only[aT];by_cases d1:m0.m.to=0
 case neg =>
  refine IF ?_;intros;exact KX.d7 av ah ⟨by rw[aM (fun h=>d1 h.1)];rfl,rfl⟩
 by_cases d2:m1.m.frm=0
 case neg =>
  refine IF ?_;intros;exact KX.d7 av ah ⟨by rw[aM (fun h=>d2 h.2.1)];rfl,rfl⟩
 by_cases d3:m1.m.to=m0.m.frm
 case neg =>
  refine IF ?_;intros;exact KX.d7 av ah ⟨by rw[aM (fun h=>d3 h.2.2.1)];rfl,rfl⟩
 by_cases d4:m0.m.n % s.times=0
 case neg =>
  refine IF ?_;intros;exact KX.d7 av ah ⟨by rw[aM (fun h=>d4 h.2.2.2.1)];rfl,rfl⟩
 refine IF ?_;intros;refine KX.d7 av ah ⟨?_,rfl⟩;by_cases d5:m1.m.n % s.times=0
 ·rw[aZ d5,aZ ⟨d1,d2,d3,d4,d5⟩];rfl
 ·rw[aM d5,aM (fun h=>d5 h.2.2.2.2)];rfl
def kC(k:Nat)(fp tp:Int→Bool)(st:Bool)(m:MvM):Prop :=
 (0≤m.item∧m.item<k)∧(1≤m.n∧m.n≤1099511627776)∧accP m.frm∧accP m.to∧m.frm≠m.to∧fp m.frm=true∧tp m.to=true∧(if st=true then fI m.parts m.n else m.parts.length=0)
noncomputable instance (a b c d e):Decidable (kC a b c d e):=Classical.propDecidable _
abbrev zj:=ar8 [.ev 17,.ev 18,.ev 19,.ev 20,.ev 21,.ev 22,.ev 23,.ev 24,.ev 25,.ev 26,.ef 27,.ev 28,.ev 29,.ev 30,.ev 31,.ev 32,.ef 33,.ev 34,.ev 35,.ev 36,.ev 37,.ev 38,.ev 39,.ev 40,.ev 41,.ev 42,.ev 43,.ev 44,.ev 45,.ev 46,.ev 47,.ef 48,.ev 49,.ev 50,.ev 51,.ev 52,.ev 53,.ev 54,.ev 55,.ef 56,.ev 57,.ev 58]
abbrev zi:List Stp:=[.ev 0,.ev 1,.ef 2,.ev 3,.ev 4,.ev 5,.ev 7,.ev 8,.ef 6,.ev 9,.ev 10,.ev 11,.ev 12,.ev 13,.ev 16,.ev 17,.ef 14,.ef 15,.ev 18,.ev 19,.ev 20]
def VM{φ ψ:Prop}(k:ψ)(h:Hid ψ→φ:=by intro k;(repeat (first|refine aa ?_|intro zzz|refine G.dr 93 1 zj ?_|refine G.dr 93 5 zi ?_));(repeat revert zzz);exact Hid.out k):φ:=h ⟨k⟩
def CY{L R:LH}{b:Nat}{sh:Int}{x:LedX}[hp:PickObj L b tLed (bS sh x) R](ff tf wf:FuncId)(fp tp:Int→Bool)(st:Bool)(hf:Asks ff fp)(ht:Asks tf tp)(m:MvV)[hr:Rds L m.pad Lot ay 3 m.m.parts](hm:m.m.parts.length≤9223372036854775807)(hl:x.cat.items.length≤64) :
  Tri ai 214 #[aq b,aN (aT m),.agg #[.func (.func ff) #[] #[],.func (.func tf) #[] #[],.bool st,.func (.func wf) #[] #[]]] L (rtQ (.bool (dB (kC x.cat.items.length fp tp st m.m))) L):=by
 obtain⟨⟨frm,to,item,n,parts⟩,pad,pcap⟩:=m;dsimp only at hr hm;have a0:∀{p:Prop},¬p→(kC x.cat.items.length fp tp st ⟨frm,to,item,n,parts⟩→p)→dB (kC x.cat.items.length fp tp st ⟨frm,to,item,n,parts⟩)=false:=fun h q=>aM (fun r=>h (q r));refine Tri.bd (args:=[aq b,aN (aT ⟨⟨frm,to,item,n,parts⟩,pad,pcap⟩),.agg #[.func (.func ff) #[] #[],.func (.func tf) #[] #[],.bool st,.func (.func wf) #[] #[]]]) ?_;by_cases h1:0≤item
 case neg =>
  refine VM ?_;intros;exact KX.d7 av ah ⟨by rw[a0 h1 (fun h=>h.1.1)];rfl,rfl⟩
 by_cases h2:item<x.cat.items.length
 case neg =>
  refine VM ?_;intros;exact KX.d7 av ah ⟨by rw[a0 h2 (fun h=>h.1.2)];rfl,rfl⟩
 by_cases h3:1≤n
 case neg =>
  refine VM ?_;intros;exact KX.d7 av ah ⟨by rw[a0 h3 (fun h=>h.2.1.1)];rfl,rfl⟩
 by_cases h4:n≤1099511627776
 case neg =>
  refine VM ?_;intros;exact KX.d7 av ah ⟨by rw[a0 h4 (fun h=>h.2.1.2)];rfl,rfl⟩
 refine VM ?_;intros;refine GPW.cr (kg frm) ?_;by_cases h5:accP frm
 case neg =>
  rw[aM h5];refine VM ?_;intros;exact KX.d7 av ah ⟨by rw[a0 h5 (fun h=>h.2.2.1)];rfl,rfl⟩
 rw[aZ h5];refine VM ?_;intros;refine GPW.cr (kg to) ?_;by_cases h6:accP to
 case neg =>
  rw[aM h6];refine VM ?_;intros;exact KX.d7 av ah ⟨by rw[a0 h6 (fun h=>h.2.2.2.1)];rfl,rfl⟩
 rw[aZ h6];by_cases h7:frm=to
 case pos =>
  refine VM ?_;intros;exact KX.d7 av ah ⟨by rw[a0 (fun q:frm≠to=>q h7) (fun h=>h.2.2.2.2.1)];rfl,rfl⟩
 refine VM ?_;intros;refine GPW.ef (Ef.d8 rfl rfl (hf frm _)) ag ?_;rintro _ _⟨rfl,rfl⟩;cases h8:fp frm with
 | false =>
  refine VM ?_;intros;exact KX.d7 av ah ⟨by rw[a0 (show ¬fp frm=true by rw[h8];decide) (fun h=>h.2.2.2.2.2.1)];rfl,rfl⟩
 | true =>
 refine VM ?_;intros;refine GPW.ef (Ef.d8 rfl rfl (ht to _)) ag ?_;rintro _ _⟨rfl,rfl⟩;cases h9:tp to with
 | false =>
  refine VM ?_;intros;exact KX.d7 av ah ⟨by rw[a0 (show ¬tp to=true by rw[h9];decide) (fun h=>h.2.2.2.2.2.2.1)];rfl,rfl⟩
 | true =>
 cases st with
 | false =>
  have e:kC x.cat.items.length fp tp false ⟨frm,to,item,n,parts⟩↔parts.length=0:=⟨fun h=>h.2.2.2.2.2.2.2,fun h=>⟨⟨h1,h2⟩,⟨h3,h4⟩,h5,h6,h7,h8,h9,h⟩⟩;refine VM ?_;intros;refine KX.d7 av ah ⟨?_,rfl⟩;by_cases a1:parts.length=0
  ·rw[aZ (ab:((parts.length:Nat):Int)=0),aZ (e.2 a1)];rfl
  ·rw[aM (ab:¬((parts.length:Nat):Int)=0),aM (fun h=>a1 (e.1 h))];rfl
 | true =>
 have e:kC x.cat.items.length fp tp true ⟨frm,to,item,n,parts⟩↔fI parts n:=⟨fun h=>h.2.2.2.2.2.2.2,fun h=>⟨⟨h1,h2⟩,⟨h3,h4⟩,h5,h6,h7,h8,h9,h⟩⟩;refine VM ?_;intros;refine GPW.cr (xb pad parts.length pcap parts rfl hm) ?_;by_cases c1:gm parts
 case neg =>
  rw[aM c1];refine VM ?_;intros;exact KX.d7 av ah ⟨by rw[aM (fun h=>c1 (e.1 h).1)];rfl,rfl⟩
 rw[aZ c1];refine VM ?_;intros;refine GPW.cr (lO pad parts.length pcap parts rfl c1.2 c1.1) ?_;by_cases c2:lsum parts=n
 case neg =>
  refine VM ?_;intros;exact KX.d7 av ah ⟨by rw[aM (fun h=>c2 (e.1 h).2.2)];rfl,rfl⟩
 refine VM ?_;intros;refine GPW.ca (jK pad parts.length pcap parts rfl (by have:=c1.2;omega) c1.1) ?_;rintro _ _⟨a3,zc,ys,rfl,a2,rfl⟩;obtain⟨s1,s2,s3,_⟩:=lz a2 c1.1;refine VM ?_;intros;refine GPW.cr (qK a3 (zset ys).length zc (zset ys) rfl (by have:=c1.2;omega) s1.ok) ?_;refine VM ?_;intros;refine KX.d7 av ah ⟨?_,rfl⟩
 have e2:kC x.cat.items.length fp tp true ⟨frm,to,item,n,parts⟩↔lsum (zset ys)=n:=by
  rw[e];constructor
  ·rintro⟨_,q,_⟩;rw[s3.2 q,c2]
  ·intro q;exact⟨c1,s3.1 (q.trans c2.symm),c2⟩
 rw[fU e2];rfl
def kF(k:Int):Int→Bool:=if k=0∨k=5 then(fun n=>dB (n=0)) else if k=4∨k=10∨k=9 then(fun _=>true) else(fun n=>dB (¬n=0))
def kT(k:Int):Int→Bool:=if k=1∨k=6 then(fun n=>dB (n=0)) else if k=4∨k=10∨k=7 then(fun _=>true) else(fun n=>dB (¬n=0))
def kS(k:Int):Bool:=if k=5∨k=7∨k=9 then true else false
def kW(k:Int):FuncId:=if k=4 then 259 else if k=10 then 260 else 257
abbrev It(ff tf wf:FuncId)(st:Bool):Value:=.agg #[.func (.func ff) #[] #[],.func (.func tf) #[] #[],.bool st,.func (.func wf) #[] #[]]
def Ew{n:Nat}{k:Int}{m:MvM}(hk:0≤k∧k≤10):mvAP n k m↔kC n (kF k) (kT k) (kS k) m:=by
 have eF:kF k m.frm=true↔(if k=0∨k=5 then m.frm=0 else if k=4∨k=10∨k=9 then True else ¬m.frm=0):=by
  unfold kF;by_cases a:k=0∨k=5
  ·rw[if_pos a,if_pos a,eY,decide_eq_true_iff]
  ·rw[if_neg a,if_neg a];by_cases b:k=4∨k=10∨k=9
   ·rw[if_pos b,if_pos b];simp
   ·rw[if_neg b,if_neg b,eY,decide_eq_true_iff]
 have eT:kT k m.to=true↔(if k=1∨k=6 then m.to=0 else if k=4∨k=10∨k=7 then True else ¬m.to=0):=by
  unfold kT;by_cases a:k=1∨k=6
  ·rw[if_pos a,if_pos a,eY,decide_eq_true_iff]
  ·rw[if_neg a,if_neg a];by_cases b:k=4∨k=10∨k=7
   ·rw[if_pos b,if_pos b];simp
   ·rw[if_neg b,if_neg b,eY,decide_eq_true_iff]
 have eS:(if kS k=true then fI m.parts m.n else m.parts.length=0)↔(if k=5∨k=7∨k=9 then fI m.parts m.n else m.parts.length=0):=by
  unfold kS;by_cases a:k=5∨k=7∨k=9
  ·rw[if_pos a,if_pos rfl,if_pos a]
  ·rw[if_neg a,if_neg ag,if_neg a]
 unfold mvAP kC fx;rw[eF,eT,eS];generalize fI m.parts m.n=PA;generalize m.parts.length=pl;unfold accP;rcases (by omega:k=0∨k=1∨k=2∨k=3∨k=4∨k=5∨k=6∨k=7∨k=8∨k=9∨k=10) with rfl|rfl|rfl|rfl|rfl|rfl|rfl|rfl|rfl|rfl|rfl<;>simp<;>intros<;>omega
noncomputable instance decTail (a:List RuM) (b:StM):Decidable (jo a b):=Classical.propDecidable _
def CW{L:LH}(k:Int)(hk:0≤k∧k≤10):Tri ai 211 #[ac k] L (fun v L'=>∃ff tf,v=.tuple #[It ff tf (kW k) (kS k),.bool true]∧(Asks ff (kF k)∧Asks tf (kT k))∧L' = L):=by
 rcases (by omega:k=0∨k=1∨k=2∨k=3∨k=4∨k=5∨k=6∨k=7∨k=8∨k=9∨k=10) with rfl|rfl|rfl|rfl|rfl|rfl|rfl|rfl|rfl|rfl|rfl
 ·refine Tri.bd (args:=[ac 0]) ?_;refine IF ?_;intros;exact KX.d7 (by exact ResOk.cell rfl aJ (ResOk.tmp rfl (ResOk.nil))) ah ⟨_,_,rfl,⟨jZ,eK⟩,rfl⟩
 ·refine Tri.bd (args:=[ac 1]) ?_;refine IF ?_;intros;exact KX.d7 (by exact ResOk.cell rfl aJ (ResOk.tmp rfl (ResOk.nil))) ah ⟨_,_,rfl,⟨eK,jZ⟩,rfl⟩
 ·refine Tri.bd (args:=[ac 2]) ?_;refine IF ?_;intros;exact KX.d7 (by exact ResOk.cell rfl aJ (ResOk.tmp rfl (ResOk.nil))) ah ⟨_,_,rfl,⟨eK,eK⟩,rfl⟩
 ·refine Tri.bd (args:=[ac 3]) ?_;refine IF ?_;intros;exact KX.d7 (by exact ResOk.cell rfl aJ (ResOk.tmp rfl (ResOk.nil))) ah ⟨_,_,rfl,⟨eK,eK⟩,rfl⟩
 ·refine Tri.bd (args:=[ac 4]) ?_;refine IF ?_;intros;exact KX.d7 (by exact ResOk.cell rfl aJ (ResOk.tmp rfl (ResOk.nil))) ah ⟨_,_,rfl,⟨lg,lg⟩,rfl⟩
 ·refine Tri.bd (args:=[ac 5]) ?_;refine IF ?_;intros;exact KX.d7 (by exact ResOk.cell rfl aJ (ResOk.tmp rfl (ResOk.nil))) ah ⟨_,_,rfl,⟨jZ,eK⟩,rfl⟩
 ·refine Tri.bd (args:=[ac 6]) ?_;refine IF ?_;intros;exact KX.d7 (by exact ResOk.cell rfl aJ (ResOk.tmp rfl (ResOk.nil))) ah ⟨_,_,rfl,⟨eK,jZ⟩,rfl⟩
 ·refine Tri.bd (args:=[ac 7]) ?_;refine IF ?_;intros;exact KX.d7 (by exact ResOk.cell rfl aJ (ResOk.tmp rfl (ResOk.nil))) ah ⟨_,_,rfl,⟨eK,lg⟩,rfl⟩
 ·refine Tri.bd (args:=[ac 8]) ?_;refine IF ?_;intros;exact KX.d7 (by exact ResOk.cell rfl aJ (ResOk.tmp rfl (ResOk.nil))) ah ⟨_,_,rfl,⟨eK,eK⟩,rfl⟩
 ·refine Tri.bd (args:=[ac 9]) ?_;refine IF ?_;intros;exact KX.d7 (by exact ResOk.cell rfl aJ (ResOk.tmp rfl (ResOk.nil))) ah ⟨_,_,rfl,⟨lg,eK⟩,rfl⟩
 ·refine Tri.bd (args:=[ac 10]) ?_;refine IF ?_;intros;exact KX.d7 (by exact ResOk.cell rfl aJ (ResOk.tmp rfl (ResOk.nil))) ah ⟨_,_,rfl,⟨lg,lg⟩,rfl⟩
def CV{L:LH}(k:Int)(hk:¬(0≤k∧k≤10)):Tri ai 211 #[ac k] L (rtQ (.tuple #[.agg #[.nilFunc,.nilFunc,.bool false,.nilFunc],.bool false]) L):=by
 by_cases h:k<0
 ·refine Tri.bd ?_;refine IF ?_;intros;exact KX.d7 (by exact ResOk.cell rfl aJ (ResOk.tmp rfl (ResOk.nil))) ah ⟨rfl,rfl⟩
 ·have h2:10<k:=ab;refine Tri.bd ?_;refine IF ?_;intros;exact KX.d7 (by exact ResOk.cell rfl aJ (ResOk.tmp rfl (ResOk.nil))) ah ⟨rfl,rfl⟩
abbrev zh:=ar3 [.ev 4,.ef 5,.ev 6,.ev 7,.ev 8,.ev 9,.ev 10,.ev 11,.ev 12,.ev 13,.ev 14,.ev 15,.ev 16,.ev 17,.ev 18,.ev 19,.ev 20,.ev 21,.ef 22,.ev 23,.ev 24,.ev 25,.ev 26,.ev 27,.ev 28,.ev 29,.ev 30,.ev 31,.ev 32,.ev 33,.ev 34,.ev 35,.ev 36]
def Wh{φ ψ:Prop}(k:ψ)(h:Hid ψ→φ:=by intro k;(repeat (first|refine aa ?_|intro zzz|refine G.dr 70 2 zh ?_));(repeat revert zzz);exact Hid.out k):φ:=h ⟨k⟩
def BI{L R:LH}{b:Nat}{sh:Int}{x:LedX}[hp:PickObj L b tLed (bS sh x) R][hr:Rds L x.sad StV aX 7 x.steps](s:StV)[c0:Rds L s.mad MvV aT 5 s.moves](b7:∀m∈s.moves,m.m.parts.length≤9223372036854775807)(hc:x.cat.m.Ok)(hB:x.cat.B)(c1:x.steps.length≤65536)(b6:s.moves.length≤1000000)(a6:s.moves.length≤s.mcap)(hI:I64 s.rule)(h0:0≤xnow x) :
  Tri ai 123 #[aq b,aN (aX s)] (catP x.cat::stP s::L) (rtQ (.bool (dB (gu x.cat.m (xnow x) s.m))) (catP x.cat::stP s::L)):=by
 have b2:=hB.items;have b9:s.m.moves.length=s.moves.length:=by simp[StV.m]
 have hA:=possG_A (c:=x.cat.m) (now:=xnow x) (s:=s.m);have a1:∀{p:Prop},¬p→(gu x.cat.m (xnow x) s.m→p)→dB (gu x.cat.m (xnow x) s.m)=false:=fun h q=>aM (fun r=>h (q r));refine Tri.bd ?_;refine Wh ?_;intros;rename_i b3;by_cases hk:0≤s.kind∧s.kind≤10
 case neg =>
  refine GO.cr (CV s.kind hk) ?_;refine Wh ?_;intros;exact KX.d7 av ah ⟨by rw[a1 hk (fun h=>(hA.1 h).1)];rfl,rfl⟩
 refine GO.ca (CW s.kind hk) ?_;rintro _ _⟨ff,tf,rfl,⟨a9,b8⟩,rfl⟩;refine Wh ?_;intros;rename_i b5;refine GPW.cr (kg s.actor) ?_;by_cases h1:accP s.actor
 case neg =>
  rw[aM h1];refine Wh ?_;intros;exact KX.d7 av ah ⟨by rw[a1 h1 (fun h=>(hA.1 h).2.1)];rfl,rfl⟩
 rw[aZ h1];by_cases h2:0≤s.tick
 case neg =>
  refine Wh ?_;intros;exact KX.d7 av ah ⟨by rw[a1 h2 (fun h=>Int.le_trans h0 (hA.1 h).2.2.1.1)];rfl,rfl⟩
 by_cases h3:s.tick≤1099511627776
 case neg =>
  refine Wh ?_;intros;exact KX.d7 av ah ⟨by rw[a1 h3 (fun h=>(hA.1 h).2.2.1.2)];rfl,rfl⟩
 refine Wh ?_;intros;refine GPW.cr (uv (b:=b) (sh:=sh) (x:=x) ab) ?_;rw[show(x.steps.getLast?.map (·.tick)).getD 0=xnow x from rfl];by_cases h4:xnow x≤s.tick
 case neg =>
  refine Wh ?_;intros;exact KX.d7 av ah ⟨by rw[a1 h4 (fun h=>(hA.1 h).2.2.1.1)];rfl,rfl⟩
 by_cases h5:1≤s.moves.length
 case neg =>
  refine Wh ?_;intros;exact KX.d7 av ah ⟨by rw[a1 h5 (fun h=>by have:=(hA.1 h).2.2.2.1.1;omega)];rfl,rfl⟩
 by_cases h6:s.moves.length≤64
 case neg =>
  refine Wh ?_;intros;exact KX.d7 av ah ⟨by rw[a1 h6 (fun h=>by have:=(hA.1 h).2.2.2.1.2;omega)];rfl,rfl⟩
 refine Wh ?_;intros;refine G.loop (α:=Nat) (fun i=>i≤s.moves.length∧∀j:Nat,j<i→kC x.cat.items.length (kF s.kind) (kT s.kind) (kS s.kind) s.moves[j]!.m) (fun i=>[(0,aq b),(3,aq b3),(4,.bool false),(5,aq b5),(53,ae s.mad s.moves.length s.mcap),(54,ac (s.moves.length:Int)),(55,ac (i:Int))]) (fun _=>obj b5 Bz [.func (.func ff) #[] #[],.func (.func tf) #[] #[],.bool (kS s.kind),.func (.func (kW s.kind)) #[] #[]]::obj b3 cQ (aX s)::catP x.cat::stP s::L) (fun i=>s.moves.length - i) 0 ⟨az _,fun j h=>absurd h ab⟩ an (Ent.refl _) ?_;rintro i ⟨hi,a8⟩;by_cases b4:i<s.moves.length
 case neg =>
  have b0:i=s.moves.length:=ab;subst b0
  have a4:∀m∈s.moves,kC x.cat.items.length (kF s.kind) (kT s.kind) (kS s.kind) m.m:=by
   intro m hm;obtain⟨j,hj,rfl⟩:=List.mem_iff_getElem.1 hm;have:=a8 j hj
   rw[getElem!_of hj] at this;exact this
  have a5:∀m∈s.m.moves,mvAP x.cat.m.items.length s.m.kind m:=by
   intro m hm;obtain⟨v,hv,rfl⟩:=List.mem_map.1 (show m∈s.moves.map MvV.m from hm);exact(Ew hk).2 (a4 v hv)
  have a7:dB (gu x.cat.m (xnow x) s.m)=dB (jo x.cat.m.rules s.m):=by
   by_cases hw:jo x.cat.m.rules s.m
   ·rw[aZ hw,aZ (hA.2 ⟨hk,h1,⟨h4,h3⟩,⟨ab,ab⟩,a5,hw⟩)]
   ·rw[aM hw,aM (fun h=>hw (hA.1 h).2.2.2.2.2)]
  rw[a7];refine Wh ?_;intros;by_cases a3:s.kind=4
  ·have e1:kW s.kind=259:=by unfold kW;rw[if_pos a3]
   have e2:dB (jo x.cat.m.rules s.m)=dB (gS x.cat.m.rules s.rule s.times (s.moves.map MvV.m)):=by
    have e:jo x.cat.m.rules s.m=gS x.cat.m.rules s.rule s.times (s.moves.map MvV.m):=by unfold jo;exact if_pos a3
    by_cases hw:gS x.cat.m.rules s.rule s.times (s.moves.map MvV.m)
    ·rw[aZ hw,aZ (e▸hw)]
    ·rw[aM hw,aM (e▸hw)]
   rw[e1,e2];refine GO.ent (Ent.at (A:=catP x.cat) (Ent.refl _)) ?_;refine GO.ef (Ef.d8 rfl rfl (pK (b:=b) (sh:=sh) (x:=x) s hc hB h6 a6 hI)) ag ?_;rintro _ _⟨rfl,rfl⟩;refine Wh ?_;intros;exact KX.en ⟨rfl,rfl⟩
  by_cases a0:s.kind=10
  ·have e1:kW s.kind=260:=by unfold kW;rw[if_neg a3,if_pos a0]
   have e2:dB (jo x.cat.m.rules s.m)=dB (iF s.m):=by
    have e:jo x.cat.m.rules s.m=iF s.m:=by unfold jo;exact(if_neg a3).trans (if_pos a0)
    by_cases hw:iF s.m
    ·rw[aZ hw,aZ (e▸hw)]
    ·rw[aM hw,aM (e▸hw)]
   rw[e1,e2];refine GO.ef (Ef.d8 rfl rfl (xf b s (fun m hm=>by have:=(a4 m hm).2.1.1;omega) b6)) ag ?_;rintro _ _⟨rfl,rfl⟩;refine Wh ?_;intros;exact KX.en ⟨rfl,rfl⟩
  ·have e1:kW s.kind=257:=by unfold kW;rw[if_neg a3,if_neg a0]
   have e2:dB (jo x.cat.m.rules s.m)=dB (ju s.rule s.times):=by
    have e:jo x.cat.m.rules s.m=ju s.rule s.times:=by unfold jo;exact(if_neg a3).trans (if_neg a0)
    by_cases hw:ju s.rule s.times
    ·rw[aZ hw,aZ (e▸hw)]
    ·rw[aM hw,aM (e▸hw)]
   rw[e1,e2];refine GO.ef (Ef.d8 rfl rfl (pI b s)) ag ?_;rintro _ _⟨rfl,rfl⟩;refine Wh ?_;intros;exact KX.en ⟨rfl,rfl⟩
 have b1:(i:Int).toNat=i:=ab;have a2:=aL b4;refine G.ent (L':=isl ay 3 s.moves[i]!.pad s.moves[i]!.m.parts::obj b5 Bz [.func (.func ff) #[] #[],.func (.func tf) #[] #[],.bool (kS s.kind),.func (.func (kW s.kind)) #[] #[]]::obj b3 cQ (aX s)::catP x.cat::stP s::L) ((Ent.at (A:=stP s) (Ent.d9 (f:=mvP) a2)).trans ah) ?_;refine Wh ?_;intros;rw[b1];refine GO.cr (CY (b:=b) (sh:=sh) (x:=x) ff tf (kW s.kind) (kF s.kind) (kT s.kind) (kS s.kind) a9 b8 s.moves[i]! (b7 _ a2) b2) ?_;by_cases h7:kC x.cat.items.length (kF s.kind) (kT s.kind) (kS s.kind) s.moves[i]!.m
 case neg =>
  rw[aM h7];refine Wh ?_;intros;refine KX.d7 av ah ⟨?_,rfl⟩;rw[a1 h7 (fun h=>(Ew hk).1 ((hA.1 h).2.2.2.2.1 s.moves[i]!.m (alStd0List_mem_map_of_mem a2)))];rfl
 rw[aZ h7];refine Wh ?_;intros;refine⟨i+1,⟨ab,?_⟩,ab,?_,by exact ah⟩
 ·intro j hj;rcases dl j i with h|h
  ·exact a8 j h
  ·obtain rfl:j=i:=ab;exact h7
 ·rw[aU i];exact an
abbrev zk:=ar6 [.ev 10,.ev 11]
abbrev wE:=ar7 [.ef 13,.ev 14]
def ce{φ ψ:Prop}(k:ψ)(h:Hid ψ→φ:=by intro k;(with_reducible apply G.d7);first|refine G.dr 116 4 zk (Hid.out k)|refine G.dr 116 10 wE (Hid.out k)):φ:=h ⟨k⟩
def WA{φ ψ:Prop}(k:ψ)(h:Hid ψ→φ:=by intro k;(repeat (first|refine aa ?_|intro zzz|refine ce ?_));(repeat revert zzz);exact Hid.out k):φ:=h ⟨k⟩
def wj{L:LH}(b bc:Nat)(sh:Int)(x:LedX)(s:StV)(z:ChG)(l:LL1)(hm:SetS (uOf z.ret x.ret) l)(hl:l.length≤2000)(e5:∀y∈l,LotOk y)(m:MvV)[hr:Rds L m.pad Lot ay 3 m.m.parts](hp:∀p∈m.m.parts,LotOk p)(hb:∀p∈m.m.parts,p.1≤9223372036854775807)(f2:m.m.parts.length≤2000)(f4:0≤sh∧sh<12)(g3:x.flows.length≤9000000)(e2:∀f∈x.flows,f.m.n≤9223372036854775807) :
  Tri ai 266 #[aq bc,aN (aT m)] (chgL b bc s z (ledL b sh x L)) (fun v L'=>∃u,v=ac (retG sh (x.flows.map FlV.m) m.m.item m.m.parts l)∧(retG sh (x.flows.map FlV.m) m.m.item m.m.parts l=0→SetS (uOf u x.ret) (l++m.m.parts))∧L' = chgL b bc s { z with ret:=u } (ledL b sh x L)):=by
 obtain⟨⟨frm,to,item,mn,parts⟩,pad,pcap⟩:=m;dsimp only at hr hp hb f2 ⊢;generalize hfe:x.flows.map FlV.m=fl;have d0:fl.length=x.flows.length:=by rw[←hfe,aA]
 refine Tri.bd (args:=[aq bc,aN (aT ⟨⟨frm,to,item,mn,parts⟩,pad,pcap⟩)]) ?_;simp only[aT,chgL,cw,ledL,bS];refine WA ?_;intros;rename_i b3;refine G.loop (α:=Nat×List (Int×Stk)) (fun g=>g.1≤parts.length∧SetS (uOf g.2 x.ret) (l++parts.take g.1)∧retG sh fl item parts l=retG sh fl item (parts.drop g.1) (l++parts.take g.1)) (fun g=>[(0,aq bc),(3,aq b3),(13,ae pad parts.length pcap),(14,ac parts.length),(15,ac (g.1:Int))]) (fun g=>chgL b bc s { z with ret:=g.2 } (ledL b sh x (obj b3 tMv [ac frm,ac to,ac item,ac mn,ae pad parts.length pcap]::L))) (fun g=>parts.length - g.1) (0,z.ret) ⟨az _,by rw[bC,aO];exact hm,by rw[bC,aO];rfl⟩ an (by(try simp only[chgL,cw,ledL,bS]);exact ah) ?_;rintro⟨i,mp⟩ ⟨hi,a4,hg⟩;dsimp only at hi a4 hg ⊢;by_cases b2:i<parts.length
 case neg =>
  rw[bM ab,aB ab] at hg;rw[aB ab] at a4;have e3:retG sh fl item parts l=0:=hg;rw[e3];(try simp only[chgL,cw,ledL,bS]);refine WA ?_;intros;refine KX.d7 av ?_ ⟨mp,rfl,fun _=>a4,rfl⟩;(try simp only[chgL,cw,ledL,bS]);exact ah
 have e4:(i:Int).toNat=i:=aD i;have e6 : (i:Int).toNat<parts.length:=ab;have e1:parts[(i:Int).toNat]! = parts[i]!:=by rw[e4]
 have b7:l++parts.take (i+1)=l++parts.take i++[parts[(i:Int).toNat]!]:=by rw[e1,aC b2,getElem!_of b2,aF]
 have f0:(l++parts.take i).length≤4000:=by rw[ax,bg];omega
 have b1:∀y∈l++parts.take i,LotOk y:=fun y hy=>by
  rcases List.mem_append.1 hy with q|q
  ·exact e5 y q
  ·exact hp y (cz q)
 have c6:=hb _ (aL b2);have a5:=hp _ (aL b2);rw[←e1] at c6 a5;rw[fA b2,lZ,←e1] at hg;rw[←b7] at hg;have f1:retG sh fl item parts l≠0→(retG sh fl item parts l=0→SetS (uOf mp x.ret) (l++parts)):=fun h q=>absurd q h;obtain⟨p,c8⟩:∃p,parts[(i:Int).toNat]! = p:=⟨_,rfl⟩;rw[c8] at c6 a5 hg b7;clear e1;have c2:=a5;unfold LotOk at c2;have a9:=vY a4 b1 a5;(try simp only[chgL,cw,ledL,bS]);refine WA ?_;intros;rw[c8];simp only[ay];refine WA ?_;intros;obtain⟨k,hk⟩:∃k,k=p.1 - sh*4294967296:=⟨_,rfl⟩;have a2:gotB sh fl item p↔(0≤k∧k<fl.length)∧fl[k.toNat]!.to=0∧fl[k.toNat]!.kind≠6∧fl[k.toNat]!.item=item∧p.2.1+p.2.2≤fl[k.toNat]!.n:=by rw[hk];rfl
 have b0:¬gotB sh fl item p→retG sh fl item parts l=10:=fun q=>by rw[hg,if_neg (fun r=>q r.1)]
 obtain⟨f5,f6⟩:=f4;rw[←hk];by_cases d1:0≤k
 case neg =>
  rw[b0 (fun q=>d1 (a2.1 q).1.1)];refine WA ?_;intros;exact KX.d7 av (by(try simp only[chgL,cw,ledL,bS]);exact ah) ⟨mp,rfl,fun h=>absurd h ag,rfl⟩
 by_cases d2:k<x.flows.length
 case neg =>
  rw[b0 (fun q=>d2 (by have:=(a2.1 q).1.2;omega))];refine WA ?_;intros;exact KX.d7 av (by(try simp only[chgL,cw,ledL,bS]);exact ah) ⟨mp,rfl,fun h=>absurd h ag,rfl⟩
 have c7:k.toNat<x.flows.length:=ab;obtain⟨f,hf⟩:∃f,x.flows[k.toNat]! = f:=⟨_,rfl⟩;have e0:fl[k.toNat]! = f.m:=by rw[←hfe,←hf];exact eD FlV.m c7
 have c1:=e2 _ (aL c7);rw[hf] at c1;rw[e0] at a2;refine WA ?_;intros;rw[hf];simp only[bT];by_cases d3:f.m.to=0
 case neg =>
  rw[b0 (fun q=>d3 (a2.1 q).2.1)];refine WA ?_;intros;exact KX.d7 av (by(try simp only[chgL,cw,ledL,bS]);exact ah) ⟨mp,rfl,fun h=>absurd h ag,rfl⟩
 by_cases d4:f.m.kind=6
 case pos =>
  rw[b0 (fun q=>(a2.1 q).2.2.1 d4)];refine WA ?_;intros;exact KX.d7 av (by(try simp only[chgL,cw,ledL,bS]);exact ah) ⟨mp,rfl,fun h=>absurd h ag,rfl⟩
 by_cases d5:f.m.item=item
 case neg =>
  rw[b0 (fun q=>d5 (a2.1 q).2.2.2.1)];refine WA ?_;intros;exact KX.d7 av (by(try simp only[chgL,cw,ledL,bS]);exact ah) ⟨mp,rfl,fun h=>absurd h ag,rfl⟩
 by_cases d6:p.2.1+p.2.2≤f.m.n
 case neg =>
  rw[b0 (fun q=>d6 (a2.1 q).2.2.2.2)];refine WA ?_;intros;exact KX.d7 av (by(try simp only[chgL,cw,ledL,bS]);exact ah) ⟨mp,rfl,fun h=>absurd h ag,rfl⟩
 have cg:gotB sh fl item p:=a2.2 ⟨⟨d1,ab⟩,d3,d4,d5,d6⟩;clear b0 a2;refine WA ?_;intros;refine GPW.cr (rU (z:=mp) (x:=x.ret) p.1) ?_;have b5:=a4.ok p.1;have a8:=a4.cap p.1;have f7:=a4.len p.1;have a7:=fun (h:¬ ∃y∈(uOf mp x.ret p.1).lots,¬apart y p) (ys:LL1) (hy:eX hdC ((uOf mp x.ret p.1).lots++[p]) ys) (s' : Stk) (h1:s'.lots=zset ys) (h2:(zset ys).length≤s'.cap)=>vZ (g':=uOf (gins mp p.1 s') x.ret) a4 b1 a5 h hy (by rw[kI,if_pos rfl,h1]) (by rw[kI,if_pos rfl];exact h2) (fun f e=>by rw[kI,if_neg e]);have b4:=fun M:LH=>qn (z:=mp) (x:=x.ret) p.1 (L:=M);generalize uOf mp x.ret p.1=sk at *;obtain⟨sad,scap,a0⟩:=sk;dsimp only at b5 a8 f7 a7 a9
 have c9:∀y∈a0++[p],LotOk y:=fun y hy=>by
  rcases List.mem_append.1 hy with q|q
  ·exact b5.ok y q
  ·rw[List.mem_singleton.1 q];exact a5
 simp only[Stk.v];refine WA ?_;intros;rename_i b6 b8 bl;refine GO.ent (L':=[isl ay 3 (some ⟨bl,0,none⟩) [p],isl ay 3 sad a0]++(isl ay 3 sad a0::chgL b bc s { z with ret:=mp } (ledL b sh x (obj b6 tLot (ay p)::obj b3 tMv [ac frm,ac to,ac item,ac mn,ae pad parts.length pcap]::L)))) ?_ ?_
 ·refine(Ent.at (A:=obj bl tLot [ac p.1,ac p.2.1,ac p.2.2]) (Ent.e9 (enc:=ay) (sz:=3) (xs:=[p]) (n:=1) rfl rfl (fun _ _=>rfl) ag)).trans (Ent.freezeSl.trans ?_);refine(Ent.at (A:=allP (fun p:Int×Stk=>stkP p.2) mp) (Ent.refl _)).trans ?_;refine(Ent.d7 (Ent.at (A:=allP (fun p:Int×Stk=>stkP p.2) x.ret) (Ent.refl _))).trans ?_;refine(b4 _).trans ?_;refine Ent.trans (show Ent (stkP ⟨sad,scap,a0⟩::_) (isl ay 3 sad a0::_) from Ent.refl _) ?_;refine(Ent.dup (bI _ _ _ _).pers).trans ?_;simp only[chgL,cw,ledL,bS,ay,ak,aj];exact ah
 simp only[ak,aj];(first|refine GO.ef (Ef.call (pX (some ⟨bl,0,none⟩) 1 [p] sad scap a0 (by rw[aG];decide) ab (fun y hy=>by rw[List.mem_singleton.1 hy];exact a5) b5) rfl cT) ag ?_);rintro _ _⟨_,⟨f9,g1,g0,g2,rfl,rfl⟩,hL⟩;simp only[ak,aj] at hL;subst hL;have c4:=AK b5 a5;generalize hpi:(pcI [p] a0).length=pn at c4;refine WA ?_;intros;by_cases c3:∃y∈a0,¬apart y p
 ·have f3:=c4.2 c3;rw[if_neg (fun q=>q.2 (a9.1 c3))] at hg;rw[hg] at f1 ⊢;(try simp only[chgL,cw,ledL,bS]);refine WA ?_;intros;exact KX.d7 av (by(try simp only[chgL,cw,ledL,bS]);exact ah) ⟨mp,rfl,fun h=>absurd h ag,rfl⟩
 have f3:¬0<pn:=fun q=>c3 (c4.1 q);rw[if_pos ⟨cg,fun q=>c3 (a9.2 q)⟩] at hg;repeat first|refine G.sn 14 ?_|refine bF ?_|intro _|refine ce ?_
 refine G.ent (L':=asl ay 3 tLot sad a0.length a0::obj b6 tLot [ac p.1,ac p.2.1,ac p.2.2]::chgL b bc s { z with ret:=mp } (ledL b sh x (obj b3 tMv [ac frm,ac to,ac item,ac mn,ae pad parts.length pcap]::L))) ?_ ?_
 ·refine(Ent.at (A:=isl ay 3 sad a0) (Ent.n5 (E:=tLot) (by simp only[maxLen];omega))).trans ?_;(try simp only[chgL,cw,ledL,bS,ay]);exact ah
 ·skip;simp only[chgL,cw,ledL,bS];refine G.f8 mixed krStd0 ?_;refine GF.evP (i:=0) rfl krStd0 (Ev.move rfl) ag ?_;refine GF.evP (i:=1) rfl krStd0 (Ev.nilCheck rfl) ag ?_;refine GF.evP (i:=2) rfl krStd0 (by first|exact Ev.fieldAddr rfl|exact Ev.f8 rfl) ag ?_;refine GF.evL (i:=3) rfl krStd0 (by first|exact Ev.d9 rfl rfl|exact Ev.e7 rfl aJ|exact Ev.e9 rfl rfl|exact Ev.e8 rfl ab|exact Ev.d7 rfl ab ag rfl) ag ?_;refine GF.evP (i:=4) rfl krStd0 (by first|exact Ev.fieldAddr rfl|exact Ev.f8 rfl) ag ?_;refine GF.evL (i:=5) rfl krStd0 (by first|exact Ev.d9 rfl rfl|exact Ev.e7 rfl aJ|exact Ev.e9 rfl rfl|exact Ev.e8 rfl ab|exact Ev.d7 rfl ab ag rfl) ag ?_;refine GF.evP (i:=6) rfl krStd0 (Ev.move rfl) ag ?_;refine GF.evL (i:=8) rfl krStd0 (by first|exact Ev.d9 rfl rfl|exact Ev.e7 rfl aJ|exact Ev.e9 rfl rfl|exact Ev.e8 rfl ab|exact Ev.d7 rfl ab ag rfl) ag ?_;refine GF.d7 7 9 krStd0 ?_ ?_
  ·refine GE.ef rfl (Ef.d9 (jw sad a0.length scap a8) rfl) ag ?_;rintro _ _⟨rfl,rfl⟩;refine⟨(by intro pe hp;simp only[bh,aH,or_false] at hp;rcases hp with rfl|rfl|rfl<;>first|exact Ev.d9 rfl rfl|exact Ev.e7 rfl aJ|exact Ev.e9 rfl rfl),?_⟩;refine GF.plan [.ef 9,.ef 10,.ef 11,.ef 12] krStd0 rfl ?_;refine WA ?_;intros;refine GPW.ef (Ef.l5 (enc:=ay) (e:=p) rfl rfl rfl rfl rfl aJ (dH _) ab ab) ag ?_;rintro _ _⟨b9,a6,rfl,rfl⟩;refine WA ?_;intros;refine GPW.ca (jK b9 (a0++[p]).length a6 (a0++[p]) rfl (by rw[ax,aG];omega) c9) ?_;rintro _ _⟨a3,a1,ys,rfl,c5,rfl⟩;refine WA ?_;intros;refine GPW.fct (gg (ad:=a3) (cap:=a1) (xs:=zset ys) (enc:=ay) (sz:=3) (E:=tLot)) ?_;rintro⟨c0,_⟩;refine GPW.efu (Ef.e9 (enc:=Stk.v) (e:=(⟨a3,a1,zset ys⟩:Stk)) rfl rfl rfl rfl) ?_;rintro _ _⟨rfl,rfl⟩;refine WA ?_;intros;refine⟨(i+1,gins mp p.1 ⟨a3,a1,zset ys⟩),⟨by dsimp only;omega,by dsimp only;rw[b7];exact a7 c3 ys c5 ⟨a3,a1,zset ys⟩ rfl c0,hg⟩,by dsimp only;omega,by dsimp only;rw[aU i];exact an,?_⟩;refine(Ent.frz a3).trans ?_;refine(Ent.at (A:=allP (fun p:Int×Stk=>stkP p.2) mp) (Ent.refl _)).trans ?_;refine(Ent.at (A:=isl ay 3 a3 (zset ys)) (lG (s:=⟨a3,a1,zset ys⟩) (k:=p.1))).trans ?_;simp only[chgL,cw,ledL,bS];exact ah
  ·refine GE.ef rfl (Ef.lit rfl rfl ag rfl) ag ?_;rintro _ _⟨bm,rfl,rfl⟩;refine⟨(by intro pe hp;simp only[bh,aH,or_false] at hp;rcases hp with rfl|rfl|rfl<;>first|exact Ev.d9 rfl rfl|exact Ev.e7 rfl aJ|exact Ev.e9 rfl rfl),?_⟩;refine GF.plan [.ef 7,.ef 10,.ef 11,.ef 12] krStd0 rfl ?_;refine WA ?_;intros;refine GPW.cr (jw sad a0.length scap a8) ?_;refine WA ?_;intros;refine GPW.ef (Ef.l5 (enc:=ay) (e:=p) rfl rfl rfl rfl rfl aJ (dH _) ab ab) ag ?_;rintro _ _⟨b9,a6,rfl,rfl⟩;refine WA ?_;intros;refine GPW.ca (jK b9 (a0++[p]).length a6 (a0++[p]) rfl (by rw[ax,aG];omega) c9) ?_;rintro _ _⟨a3,a1,ys,rfl,c5,rfl⟩;refine WA ?_;intros;refine GPW.fct (gg (ad:=a3) (cap:=a1) (xs:=zset ys) (enc:=ay) (sz:=3) (E:=tLot)) ?_;rintro⟨c0,_⟩;refine GPW.efu (Ef.e9 (enc:=Stk.v) (e:=(⟨a3,a1,zset ys⟩:Stk)) rfl rfl rfl rfl) ?_;rintro _ _⟨rfl,rfl⟩;refine WA ?_;intros;refine⟨(i+1,gins mp p.1 ⟨a3,a1,zset ys⟩),⟨by dsimp only;omega,by dsimp only;rw[b7];exact a7 c3 ys c5 ⟨a3,a1,zset ys⟩ rfl c0,hg⟩,by dsimp only;omega,by dsimp only;rw[aU i];exact an,?_⟩;refine(Ent.frz a3).trans ?_;refine(Ent.at (A:=allP (fun p:Int×Stk=>stkP p.2) mp) (Ent.refl _)).trans ?_;refine(Ent.at (A:=isl ay 3 a3 (zset ys)) (lG (s:=⟨a3,a1,zset ys⟩) (k:=p.1))).trans ?_;simp only[chgL,cw,ledL,bS];exact ah
def xq{sh:Int}{fl fw:List FlM}(h:∀f∈fw,f.to≠0)(item:Int)(p:Lot):gotB sh (fl++fw) item p↔gotB sh fl item p:=by
 unfold gotB;by_cases c:p.1 - sh*4294967296<fl.length∧0≤p.1 - sh*4294967296
 ·obtain⟨c1,c0⟩:=c
  have e:(fl++fw)[(p.1 - sh*4294967296).toNat]! = fl[(p.1 - sh*4294967296).toNat]!:=by
   rw[getElem!_of (by rw[ax];omega),getElem!_of ab,dR]
  rw[e,ax];exact⟨fun q=>⟨⟨c0,c1⟩,q.2⟩,fun q=>⟨⟨c0,ab⟩,q.2⟩⟩
 ·constructor
  ·rintro⟨⟨q0,q1⟩,q2,_⟩;rw[ax] at q1;have hk:(p.1 - sh*4294967296).toNat<(fl++fw).length:=by rw[ax];omega
   have hm:(fl++fw)[(p.1 - sh*4294967296).toNat]!∈fw:=by
    rw[getElem!_of hk,fh ab];exact eO _
   exact absurd q2 (h _ hm)
  ·rintro⟨⟨q0,q1⟩,_⟩;exact absurd ⟨q1,q0⟩ c
def wi{sh:Int}{fl fw:List FlM}(h:∀f∈fw,f.to≠0)(item:Int):∀(ps l:LL1),retG sh (fl++fw) item ps l=retG sh fl item ps l
 | [],_=>rfl
 | p::ps,l=>by
  rw[lZ,lZ,wi h item ps];by_cases c:gotB sh fl item p∧¬ ∃y∈ofF l p.1,ovP p y
  ·rw[if_pos c,if_pos ⟨(xq h item p).2 c.1,c.2⟩]
  ·rw[if_neg c,if_neg (fun q=>c ⟨(xq h item p).1 q.1,q.2⟩)]
abbrev zg:=ar6 [.ev 10]
abbrev zf:=ar6 []
def WY{φ ψ:Prop}(k:ψ)(h:Hid ψ→φ:=by intro k;(repeat (first|refine aa ?_|intro zzz|refine G.dr 33 2 zg ?_|refine G.dr 33 5 zf ?_));(repeat revert zzz);exact Hid.out k):φ:=h ⟨k⟩
def qL{L R1 R2 R3 R4:LH}{b bc:Nat}{sh:Int}{x:LedX}{s:StV}{z:ChG}[a0:PickObj L b tLed (bS sh x) R1][a1:PickObj L bc tCh (cw b s z) R2][a2:PickG L z.cs (Int×Int) Stk kvP Stk.v z.stk R3][a3:PickG L x.ms (Int×Int) Stk kvP Stk.v x.stk R4](a i:Int) :
  Tri ai 216 #[aq bc,ac a,ac i] L (rtQ ((uOf z.stk x.stk (a,i)).v) L):=by
 refine Tri.bd ?_;refine WY ?_;intros;refine GPW.evL (Ev.m6 rfl rfl) ag ?_;cases h:@List.lookup _ _ instBEqOfDecidableEq (a,i) z.stk with
 | some k =>
  simp only[eZ,fY,Option.isSome_some];refine WY ?_;intros;refine KX.d7 av ah ⟨?_,rfl⟩;unfold uOf glk;rw[h];rfl
 | none =>
  simp only[ez,dW,Option.isSome_none];refine WY ?_;intros;refine GPW.evL (Ev.d8 rfl rfl) ag ?_;rw[nM];refine WY ?_;intros;refine KX.d7 av ah ⟨?_,rfl⟩;unfold uOf glk;rw[h];rfl
structure WdG (x:LedX) (z:ChG) (m:MvM):Prop where
 item:0≤m.item∧m.item<x.cat.items.length
 n:0≤m.n∧m.n≤1099511627776
 pv:gm m.parts
 pa:Apart m.parts
 sv:gm (uOf z.stk x.stk (m.frm,m.item)).lots
 sa:Apart (uOf z.stk x.stk (m.frm,m.item)).lots
def lM(own:LL1)(m:MvM):Prop:=if m.parts=[] then lsum own<m.n else ¬iy m.parts own
def rS(mixed:Bool)(own:LL1)(m:MvM):LL1:=if m.parts=[] then iO mixed own m.n else m.parts
def vC(mixed:Bool)(own:LL1)(m:MvM):LL1:=if m.parts=[] then fV mixed own m.n else fq own m.parts
abbrev ze:=ar7 [.ev 13,.ev 14,.ev 15,.ef 16,.ev 17,.ev 18,.ev 19,.ev 20,.ev 21,.ev 22,.ev 23]
abbrev zd:=ar4 [.ef 6]
abbrev wD:=ar5 [.ef 8,.ef 9]
def Xc{φ ψ:Prop}(k:ψ)(h:Hid ψ→φ:=by intro k;(repeat (first|refine aa ?_|intro zzz|refine G.dr 73 4 ze ?_|refine G.dr 73 7 zd ?_|refine G.dr 73 11 wD ?_));(repeat revert zzz);exact Hid.out k):φ:=h ⟨k⟩
def tn{L:LH}(b bc:Nat)(sh:Int)(x:LedX)(s:StV)(z:ChG)(m:MvV)(h:WdG x z m.m)(hT:TakeC (bO x m.m.item))(b7:x.cat.items.length≤64) :
  Tri ai 264 #[aq bc,aN (aT m)] (isl ay 3 m.pad m.m.parts::chgL b bc s z (ledL b sh x L)) (fun v L' =>
   (lM (uOf z.stk x.stk (m.m.frm,m.m.item)).lots m.m∧v=.tuple #[ae none 0 0,ac 10]∧L' = chgL b bc s z (ledL b sh x L)) ∨
   (¬lM (uOf z.stk x.stk (m.m.frm,m.m.item)).lots m.m∧∃pad pcap sk,v=.tuple #[ae pad (rS (bO x m.m.item) (uOf z.stk x.stk (m.m.frm,m.m.item)).lots m.m).length pcap,ac 0]∧sk.lots=vC (bO x m.m.item) (uOf z.stk x.stk (m.m.frm,m.m.item)).lots m.m ∧
    L' = isl ay 3 pad (rS (bO x m.m.item) (uOf z.stk x.stk (m.m.frm,m.m.item)).lots m.m)::chgL b bc s { z with stk:=gins z.stk (m.m.frm,m.m.item) sk } (ledL b sh x L))):=by
 obtain⟨⟨b2,b4⟩,⟨b0,b1⟩,a7,a8,a4,a9⟩:=h;have b5:=a7.2;obtain⟨⟨frm,to,item,mn,parts⟩,a1,a2⟩:=m;dsimp only at b2 b4 b0 b1 a7 a8 a4 a9 b5 hT ⊢;refine Tri.bd (args:=[aq bc,aN (aT ⟨⟨frm,to,item,mn,parts⟩,a1,a2⟩)]) ?_;refine G.ent (L':=stkP (uOf z.stk x.stk (frm,item))::isl be 7 x.cat.iad x.cat.items::isl ay 3 a1 parts::chgL b bc s z (ledL b sh x L)) ?_ ?_
 ·simp only[chgL,ledL];refine(Ent.at (A:=catP x.cat) rL).trans ?_;refine(Ent.at (A:=allP (fun p:(Int×Int)×Stk=>stkP p.2) z.stk) (Ent.refl _)).trans ?_;refine(Ent.d7 (Ent.at (A:=allP (fun p:(Int×Int)×Stk=>stkP p.2) x.stk) (Ent.refl _))).trans ?_;refine(qn (frm,item)).trans ?_;exact ah
 simp only[chgL,ledL,aT];refine Xc ?_;intros;rename_i b3;refine GO.cr (qL (b:=b) (sh:=sh) (x:=x) (s:=s) (z:=z) frm item) ?_;generalize hsk:uOf z.stk x.stk (frm,item)=sk at *;obtain⟨sad,scap,a0⟩:=sk;dsimp only at a4 a9 ⊢;have b6:=a4.2;simp only[Stk.v];by_cases hp:parts.length=0
 ·have a6:parts=[]:=aW hp;subst a6;have eB:lM a0 ⟨frm,to,item,mn,[]⟩↔lsum a0<mn:=by unfold lM;rw[if_pos rfl]
  have eP:rS (bO x item) a0 ⟨frm,to,item,mn,[]⟩=iO (bO x item) a0 mn:=if_pos rfl;have eL:vC (bO x item) a0 ⟨frm,to,item,mn,[]⟩=fV (bO x item) a0 mn:=if_pos rfl;rw[eB,eP,eL];refine Xc ?_;intros;refine GPW.ent (Ent.at (A:=stkP ⟨sad,scap,a0⟩) (Ent.refl _)) ?_;refine GPW.ca (hT.tri _ sad scap a0 mn b6 a4.1 b0 b1) ?_;rintro _ _ (⟨h1,rfl,rfl⟩|⟨h1,a5,c1,a3,c2,rfl,rfl⟩)
  ·refine Xc ?_;intros;exact KX.en (.inl ⟨h1,rfl,rfl⟩)
  ·refine Xc ?_;intros;refine GPW.efu (Ef.e9 (enc:=Stk.v) (e:=(⟨a3,c2,fV (bO x item) a0 mn⟩:Stk)) rfl rfl rfl rfl) ?_;rintro _ _ rfl;refine Xc ?_;intros;refine KX.d7 av ?_ (.inr ⟨ab,a5,c1,⟨a3,c2,fV (bO x item) a0 mn⟩,rfl,rfl,rfl⟩);refine(Ent.frz a5).trans ((Ent.frz a3).trans ?_);refine(Ent.at (A:=allP (fun p:(Int×Int)×Stk=>stkP p.2) z.stk) (Ent.refl _)).trans ?_;refine(Ent.at (A:=stkP ⟨a3,c2,fV (bO x item) a0 mn⟩) (lG (k:=(frm,item)))).trans ?_;exact ah
 have a6:¬parts=[]:=fun q=>hp (by rw[q];rfl);have eB:lM a0 ⟨frm,to,item,mn,parts⟩↔¬iy parts a0:=by unfold lM;rw[if_neg a6]
 have eP:rS (bO x item) a0 ⟨frm,to,item,mn,parts⟩=parts:=if_neg a6;have eL:vC (bO x item) a0 ⟨frm,to,item,mn,parts⟩=fq a0 parts:=if_neg a6;rw[eB,eP,eL];refine Xc ?_;intros;refine GO.ent ((Ent.at (A:=isl ay 3 a1 parts) (Ent.dup (bI _ _ _ _).pers)).trans ((Ent.at (A:=stkP ⟨sad,scap,a0⟩) (Ent.dup (bI ay 3 sad a0).pers)).trans (Ent.at (A:=isl ay 3 a1 parts) (Ent.refl _)))) ?_;refine GO.cr (xj a1 a2 parts sad scap a0 a7 a8 a4 a9) ?_;by_cases hw:iy parts a0
 case neg =>
  rw[aM hw];refine Xc ?_;intros;exact KX.en (.inl ⟨hw,rfl,rfl⟩)
 rw[aZ hw];refine Xc ?_;intros;refine GPW.ca (vg sad scap a0 a1 a2 parts a7 a8 a4) ?_;rintro _ _⟨a3,c2,rfl,rfl⟩;refine Xc ?_;intros;refine GPW.efu (Ef.e9 (enc:=Stk.v) (e:=(⟨a3,c2,fq a0 parts⟩:Stk)) rfl rfl rfl rfl) ?_;rintro _ _ rfl;refine Xc ?_;intros;refine GO.ca (gV a1 parts.length a2 parts rfl ab) ?_;rintro _ _⟨a5,c1,rfl,rfl⟩;refine Xc ?_;intros;refine KX.d7 av ?_ (.inr ⟨fun q=>q hw,a5,c1,⟨a3,c2,fq a0 parts⟩,rfl,rfl,rfl⟩);refine(Ent.frz a5).trans ((Ent.frz a3).trans ?_);refine(Ent.at (A:=allP (fun p:(Int×Int)×Stk=>stkP p.2) z.stk) (Ent.refl _)).trans ?_;refine(Ent.at (A:=isl ay 3 a3 (fq a0 parts)) (lG (s:=⟨a3,c2,fq a0 parts⟩) (k:=(frm,item)))).trans ?_;exact ah
