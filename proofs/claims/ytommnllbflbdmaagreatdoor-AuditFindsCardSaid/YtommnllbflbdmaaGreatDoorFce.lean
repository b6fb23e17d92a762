/- Lemmas. -/
import Derived.Test.YtommnllbflbdmaaGreatDoorFcc
import Derived.Test.YtommnllbflbdmaaGreatDoorFbt
set_option linter.all false
set_option maxHeartbeats 8000000
namespace Go.Proofs.YtommnllbflbdmaaGreatDoor
section
open Go.V
attribute [local irreducible] G GO GP GPW GPK GF GE Ev Ef EfR Ent CB GB V.Enters
def yi{L:LH}(b:Nat)(s:StV)[hr:Rds L s.mad MvV aL 5 s.moves](hn:∀m∈s.moves,0≤m.m.n)(hl:s.moves.length≤1000000) :
  Tri ai 260 #[ay b,aO (aN s)] L (rtQ (.bool (dB (gS s.m))) L):=by
 have a0:s.m.moves.length=s.moves.length:=by show(s.moves.map MvV.m).length=_;rw[az]
 refine Tri.bd ?_;simp only[aN];by_cases c1:s.rule = -1
 case neg =>
  rw[aH (show ¬gS s.m from fun q=>c1 q.1)];refine JM ?_;intros;exact KX.en ⟨rfl,rfl⟩
 refine JM ?_;intros;refine GO.cr (qo s.times) ?_;by_cases c2:iu s.times
 case neg =>
  rw[aH c2,aH (show ¬gS s.m from fun q=>c2 q.2.1)];refine JM ?_;intros;exact KX.en ⟨rfl,rfl⟩
 rw[aU c2];by_cases c3:s.moves.length=2
 case neg =>
  rw[aH (show ¬gS s.m from fun q=>c3 (a0.symm.trans q.2.2.1))];refine JM ?_;intros;exact KX.en ⟨rfl,rfl⟩
 have e0:s.m.moves[0]! = s.moves[0]!.m:=dI _ (ab:0<s.moves.length);have e1:s.m.moves[1]! = s.moves[1]!.m:=dI _ (ab:1<s.moves.length);have n0:=hn _ (aJ (ab:0<s.moves.length));have n1:=hn _ (aJ (ab:1<s.moves.length))
 have e:gS s.m↔s.moves[0]!.m.to=0∧s.moves[1]!.m.frm=0∧s.moves[1]!.m.to=s.moves[0]!.m.frm∧s.moves[0]!.m.n % s.times=0∧s.moves[1]!.m.n % s.times=0:=by
  unfold gS;rw[e0,e1];exact⟨fun q=>q.2.2.2,fun q=>⟨c1,c2,a0.trans c3,q⟩⟩
 unfold iu at c2;have t0:(0:Int).toNat=0:=rfl;have t1:(1:Int).toNat=1:=rfl;have i0:(0:Int).toNat<s.moves.length:=ab;have i1:(1:Int).toNat<s.moves.length:=ab;rw[←t0] at e n0;rw[←t1] at e n1;rw[gi e];clear e0 e1 e;repeat first|refine G.sn 3 ?_|refine bV ?_|intro
 rename_i b1;refine G.d8 (α:=Nat×Nat) (fun _=>True) (fun g=>[(3,ay b1),(5,.pointer (some ⟨g.1,0,none⟩)),(6,.pointer (some ⟨g.2,0,none⟩))]) (fun g=>obj g.1 tMv (aL s.moves[(0:Int).toNat]!)::obj g.2 tMv (aL s.moves[(1:Int).toNat]!)::obj b1 ba [ac s.id,ac s.kind,ac s.actor,ac s.tick,ac s.rule,ac s.times,ah s.mad s.moves.length s.mcap]::L) ?_ ?_
 ·refine G.e7 mixed krStd0 ?_;refine GF.evP (i:=0) rfl krStd0 (Ev.fieldAddr rfl) ae ?_;refine GF.evL (i:=1) rfl krStd0 (Ev.d8 rfl rfl) ae ?_;refine GF.evL (i:=2) rfl krStd0 (Ev.indexAddr rfl rfl ab ab ab) ae ?_;refine GF.evL (i:=3) rfl krStd0 (Ev.e7 rfl ab) ae ?_;refine GF.evP (i:=4) rfl krStd0 (Ev.fieldAddr rfl) ae ?_;refine GF.evL (i:=5) rfl krStd0 (Ev.d8 rfl rfl) ae ?_;refine GF.evL (i:=6) rfl krStd0 (Ev.indexAddr rfl rfl ab ab ab) ae ?_;refine GF.evL (i:=7) rfl krStd0 (Ev.e7 rfl ab) ae ?_;refine GF.d7 8 9 krStd0 ?_ ?_
  ·refine GE.ef rfl Ef.alloc ae ?_;rintro _ _⟨b3,rfl,rfl⟩;refine⟨(by intro pe hp;simp only[bA,aV,or_false] at hp;rcases hp with rfl|rfl|rfl|rfl|rfl|rfl<;>first|exact Ev.d8 rfl rfl|exact Ev.indexAddr rfl rfl ab ab ab|exact Ev.e7 rfl ab),?_⟩;refine GF.plan [.ef 9,.ef 10,.ef 11] krStd0 rfl ?_;refine JM ?_;intros;exact⟨(b3,_),trivial,av,by exact ag⟩
  ·refine GE.ef rfl Ef.alloc ae ?_;rintro _ _⟨b4,rfl,rfl⟩;refine⟨(by intro pe hp;simp only[bA,aV,or_false] at hp;rcases hp with rfl|rfl|rfl|rfl|rfl|rfl<;>first|exact Ev.d8 rfl rfl|exact Ev.indexAddr rfl rfl ab ab ab|exact Ev.e7 rfl ab),?_⟩;refine GF.plan [.ef 8,.ef 10,.ef 11] krStd0 rfl ?_;refine JM ?_;intros;exact⟨(_,b4),trivial,av,by exact ag⟩
 rintro⟨b3,b4⟩ _;generalize s.moves[(0:Int).toNat]! = m0 at *;generalize s.moves[(1:Int).toNat]! = m1 at *;simp only[aL];by_cases d1:m0.m.to=0
 case neg =>
  refine JM ?_;intros;exact KX.d7 an ag ⟨by rw[aH (fun h=>d1 h.1)];rfl,rfl⟩
 by_cases d2:m1.m.frm=0
 case neg =>
  refine JM ?_;intros;exact KX.d7 an ag ⟨by rw[aH (fun h=>d2 h.2.1)];rfl,rfl⟩
 by_cases d3:m1.m.to=m0.m.frm
 case neg =>
  refine JM ?_;intros;exact KX.d7 an ag ⟨by rw[aH (fun h=>d3 h.2.2.1)];rfl,rfl⟩
 by_cases d4:m0.m.n % s.times=0
 case neg =>
  refine JM ?_;intros;exact KX.d7 an ag ⟨by rw[aH (fun h=>d4 h.2.2.2.1)];rfl,rfl⟩
 refine JM ?_;intros;refine KX.d7 an ag ⟨?_,rfl⟩;by_cases d5:m1.m.n % s.times=0
 ·rw[aU d5,aU ⟨d1,d2,d3,d4,d5⟩];rfl
 ·rw[aH d5,aH (fun h=>d5 h.2.2.2.2)];rfl
def kA(k:Nat)(fp tp:Int→Bool)(st:Bool)(m:MvM):Prop :=
 (0≤m.item∧m.item<k)∧(1≤m.n∧m.n≤1099511627776)∧accP m.frm∧accP m.to∧m.frm≠m.to∧fp m.frm=true∧tp m.to=true∧(if st=true then fY m.parts m.n else m.parts.length=0)
noncomputable instance (a b c d e):Decidable (kA a b c d e):=Classical.propDecidable _
abbrev AD:=aH4 [.ev 17,.ev 18,.ev 19,.ev 20,.ev 21,.ev 22,.ev 23,.ev 24,.ev 25,.ev 26,.ef 27,.ev 28,.ev 29,.ev 30,.ev 31,.ev 32,.ef 33,.ev 34,.ev 35,.ev 36,.ev 37,.ev 38,.ev 39,.ev 40,.ev 41,.ev 42,.ev 43,.ev 44,.ev 45,.ev 46,.ev 47,.ef 48,.ev 49,.ev 50,.ev 51,.ev 52,.ev 53,.ev 54,.ev 55,.ef 56,.ev 57,.ev 58]
abbrev AC:List Stp:=[.ev 0,.ev 1,.ef 2,.ev 3,.ev 4,.ev 5,.ev 7,.ev 8,.ef 6,.ev 9,.ev 10,.ev 11,.ev 12,.ev 13,.ev 16,.ev 17,.ef 14,.ef 15,.ev 18,.ev 19,.ev 20]
def ah8{φ ψ:Prop}(k:ψ)(h:Hid ψ→φ:=by intro k;(repeat (first|refine aa ?_|intro zzz|refine G.dr 93 1 AD ?_|refine G.dr 93 5 AC ?_));(repeat revert zzz);exact Hid.out k):φ:=h ⟨k⟩
def Em{L R:LH}{b:Nat}{sh:Int}{x:LedX}[hp:PickObj L b tLed (bR sh x) R](ff tf wf:FuncId)(fp tp:Int→Bool)(st:Bool)(hf:Asks ff fp)(ht:Asks tf tp)(m:MvV)[hr:Rds L m.pad Lot aj 3 m.m.parts](hm:m.m.parts.length≤9223372036854775807)(hl:x.cat.items.length≤64) :
  Tri ai 214 #[ay b,aO (aL m),.agg #[.func (.func ff) #[] #[],.func (.func tf) #[] #[],.bool st,.func (.func wf) #[] #[]]] L (rtQ (.bool (dB (kA x.cat.items.length fp tp st m.m))) L):=by
 obtain⟨⟨frm,to,item,n,parts⟩,pad,pcap⟩:=m;dsimp only at hr hm;have a0:∀{p:Prop},¬p→(kA x.cat.items.length fp tp st ⟨frm,to,item,n,parts⟩→p)→dB (kA x.cat.items.length fp tp st ⟨frm,to,item,n,parts⟩)=false:=fun h q=>aH (fun r=>h (q r));refine Tri.bd (args:=[ay b,aO (aL ⟨⟨frm,to,item,n,parts⟩,pad,pcap⟩),.agg #[.func (.func ff) #[] #[],.func (.func tf) #[] #[],.bool st,.func (.func wf) #[] #[]]]) ?_;by_cases h1:0≤item
 case neg =>
  refine ah8 ?_;intros;exact KX.d7 an ag ⟨by rw[a0 h1 (fun h=>h.1.1)];rfl,rfl⟩
 by_cases h2:item<x.cat.items.length
 case neg =>
  refine ah8 ?_;intros;exact KX.d7 an ag ⟨by rw[a0 h2 (fun h=>h.1.2)];rfl,rfl⟩
 by_cases h3:1≤n
 case neg =>
  refine ah8 ?_;intros;exact KX.d7 an ag ⟨by rw[a0 h3 (fun h=>h.2.1.1)];rfl,rfl⟩
 by_cases h4:n≤1099511627776
 case neg =>
  refine ah8 ?_;intros;exact KX.d7 an ag ⟨by rw[a0 h4 (fun h=>h.2.1.2)];rfl,rfl⟩
 refine ah8 ?_;intros;refine GPW.cr (kj frm) ?_;by_cases h5:accP frm
 case neg =>
  rw[aH h5];refine ah8 ?_;intros;exact KX.d7 an ag ⟨by rw[a0 h5 (fun h=>h.2.2.1)];rfl,rfl⟩
 rw[aU h5];refine ah8 ?_;intros;refine GPW.cr (kj to) ?_;by_cases h6:accP to
 case neg =>
  rw[aH h6];refine ah8 ?_;intros;exact KX.d7 an ag ⟨by rw[a0 h6 (fun h=>h.2.2.2.1)];rfl,rfl⟩
 rw[aU h6];by_cases h7:frm=to
 case pos =>
  refine ah8 ?_;intros;exact KX.d7 an ag ⟨by rw[a0 (fun q:frm≠to=>q h7) (fun h=>h.2.2.2.2.1)];rfl,rfl⟩
 refine ah8 ?_;intros;refine GPW.ef (Ef.d8 rfl rfl (hf frm _)) ae ?_;rintro _ _⟨rfl,rfl⟩;cases h8:fp frm with
 | false =>
  refine ah8 ?_;intros;exact KX.d7 an ag ⟨by rw[a0 (show ¬fp frm=true by rw[h8];decide) (fun h=>h.2.2.2.2.2.1)];rfl,rfl⟩
 | true =>
 refine ah8 ?_;intros;refine GPW.ef (Ef.d8 rfl rfl (ht to _)) ae ?_;rintro _ _⟨rfl,rfl⟩;cases h9:tp to with
 | false =>
  refine ah8 ?_;intros;exact KX.d7 an ag ⟨by rw[a0 (show ¬tp to=true by rw[h9];decide) (fun h=>h.2.2.2.2.2.2.1)];rfl,rfl⟩
 | true =>
 cases st with
 | false =>
  have e:kA x.cat.items.length fp tp false ⟨frm,to,item,n,parts⟩↔parts.length=0:=⟨fun h=>h.2.2.2.2.2.2.2,fun h=>⟨⟨h1,h2⟩,⟨h3,h4⟩,h5,h6,h7,h8,h9,h⟩⟩;refine ah8 ?_;intros;refine KX.d7 an ag ⟨?_,rfl⟩;by_cases a1:parts.length=0
  ·rw[aU (ab:((parts.length:Nat):Int)=0),aU (e.2 a1)];rfl
  ·rw[aH (ab:¬((parts.length:Nat):Int)=0),aH (fun h=>a1 (e.1 h))];rfl
 | true =>
 have e:kA x.cat.items.length fp tp true ⟨frm,to,item,n,parts⟩↔fY parts n:=⟨fun h=>h.2.2.2.2.2.2.2,fun h=>⟨⟨h1,h2⟩,⟨h3,h4⟩,h5,h6,h7,h8,h9,h⟩⟩;refine ah8 ?_;intros;refine GPW.cr (ye pad parts.length pcap parts rfl hm) ?_;by_cases c1:dQ parts
 case neg =>
  rw[aH c1];refine ah8 ?_;intros;exact KX.d7 an ag ⟨by rw[aH (fun h=>c1 (e.1 h).1)];rfl,rfl⟩
 rw[aU c1];refine ah8 ?_;intros;refine GPW.cr (lS pad parts.length pcap parts rfl c1.2 c1.1) ?_;by_cases c2:lsum parts=n
 case neg =>
  refine ah8 ?_;intros;exact KX.d7 an ag ⟨by rw[aH (fun h=>c2 (e.1 h).2.2)];rfl,rfl⟩
 refine ah8 ?_;intros;refine GPW.ca (jY pad parts.length pcap parts rfl (by have:=c1.2;omega) c1.1) ?_;rintro _ _⟨a3,zc,ys,rfl,a2,rfl⟩;obtain⟨s1,s2,s3,_⟩:=lA a2 c1.1;refine ah8 ?_;intros;refine GPW.cr (rt a3 (zset ys).length zc (zset ys) rfl (by have:=c1.2;omega) s1.ok) ?_;refine ah8 ?_;intros;refine KX.d7 an ag ⟨?_,rfl⟩
 have e2:kA x.cat.items.length fp tp true ⟨frm,to,item,n,parts⟩↔lsum (zset ys)=n:=by
  rw[e];constructor
  ·rintro⟨_,q,_⟩;rw[s3.2 q,c2]
  ·intro q;exact⟨c1,s3.1 (q.trans c2.symm),c2⟩
 rw[gi e2];rfl
def kF(k:Int):Int→Bool:=if k=0∨k=5 then(fun n=>dB (n=0)) else if k=4∨k=10∨k=9 then(fun _=>true) else(fun n=>dB (¬n=0))
def kT(k:Int):Int→Bool:=if k=1∨k=6 then(fun n=>dB (n=0)) else if k=4∨k=10∨k=7 then(fun _=>true) else(fun n=>dB (¬n=0))
def kS(k:Int):Bool:=if k=5∨k=7∨k=9 then true else false
def kW(k:Int):FuncId:=if k=4 then 259 else if k=10 then 260 else 257
abbrev JA(ff tf wf:FuncId)(st:Bool):Value:=.agg #[.func (.func ff) #[] #[],.func (.func tf) #[] #[],.bool st,.func (.func wf) #[] #[]]
def FL{n:Nat}{k:Int}{m:MvM}(hk:0≤k∧k≤10):mvAP n k m↔kA n (kF k) (kT k) (kS k) m:=by
 have eF:kF k m.frm=true↔(if k=0∨k=5 then m.frm=0 else if k=4∨k=10∨k=9 then True else ¬m.frm=0):=by
  unfold kF;by_cases a:k=0∨k=5
  ·rw[if_pos a,if_pos a,fu,decide_eq_true_iff]
  ·rw[if_neg a,if_neg a];by_cases b:k=4∨k=10∨k=9
   ·rw[if_pos b,if_pos b];simp
   ·rw[if_neg b,if_neg b,fu,decide_eq_true_iff]
 have eT:kT k m.to=true↔(if k=1∨k=6 then m.to=0 else if k=4∨k=10∨k=7 then True else ¬m.to=0):=by
  unfold kT;by_cases a:k=1∨k=6
  ·rw[if_pos a,if_pos a,fu,decide_eq_true_iff]
  ·rw[if_neg a,if_neg a];by_cases b:k=4∨k=10∨k=7
   ·rw[if_pos b,if_pos b];simp
   ·rw[if_neg b,if_neg b,fu,decide_eq_true_iff]
 have eS:(if kS k=true then fY m.parts m.n else m.parts.length=0)↔(if k=5∨k=7∨k=9 then fY m.parts m.n else m.parts.length=0):=by
  unfold kS;by_cases a:k=5∨k=7∨k=9
  ·rw[if_pos a,if_pos rfl,if_pos a]
  ·rw[if_neg a,if_neg ae,if_neg a]
 unfold mvAP kA fM;rw[eF,eT,eS];generalize fY m.parts m.n=PA;generalize m.parts.length=pl;unfold accP;rcases (by omega:k=0∨k=1∨k=2∨k=3∨k=4∨k=5∨k=6∨k=7∨k=8∨k=9∨k=10) with rfl|rfl|rfl|rfl|rfl|rfl|rfl|rfl|rfl|rfl|rfl<;>simp<;>intros<;>omega
noncomputable instance decTail (a:List RuM) (b:StM):Decidable (jk a b):=Classical.propDecidable _
def El{L:LH}(k:Int)(hk:0≤k∧k≤10):Tri ai 211 #[ac k] L (fun v L'=>∃ff tf,v=.tuple #[JA ff tf (kW k) (kS k),.bool true]∧(Asks ff (kF k)∧Asks tf (kT k))∧L' = L):=by
 rcases (by omega:k=0∨k=1∨k=2∨k=3∨k=4∨k=5∨k=6∨k=7∨k=8∨k=9∨k=10) with rfl|rfl|rfl|rfl|rfl|rfl|rfl|rfl|rfl|rfl|rfl
 ·refine Tri.bd (args:=[ac 0]) ?_;refine JM ?_;intros;exact KX.d7 (by exact ResOk.cell rfl aK (ResOk.tmp rfl (ResOk.nil))) ag ⟨_,_,rfl,⟨ke,eW⟩,rfl⟩
 ·refine Tri.bd (args:=[ac 1]) ?_;refine JM ?_;intros;exact KX.d7 (by exact ResOk.cell rfl aK (ResOk.tmp rfl (ResOk.nil))) ag ⟨_,_,rfl,⟨eW,ke⟩,rfl⟩
 ·refine Tri.bd (args:=[ac 2]) ?_;refine JM ?_;intros;exact KX.d7 (by exact ResOk.cell rfl aK (ResOk.tmp rfl (ResOk.nil))) ag ⟨_,_,rfl,⟨eW,eW⟩,rfl⟩
 ·refine Tri.bd (args:=[ac 3]) ?_;refine JM ?_;intros;exact KX.d7 (by exact ResOk.cell rfl aK (ResOk.tmp rfl (ResOk.nil))) ag ⟨_,_,rfl,⟨eW,eW⟩,rfl⟩
 ·refine Tri.bd (args:=[ac 4]) ?_;refine JM ?_;intros;exact KX.d7 (by exact ResOk.cell rfl aK (ResOk.tmp rfl (ResOk.nil))) ag ⟨_,_,rfl,⟨lg,lg⟩,rfl⟩
 ·refine Tri.bd (args:=[ac 5]) ?_;refine JM ?_;intros;exact KX.d7 (by exact ResOk.cell rfl aK (ResOk.tmp rfl (ResOk.nil))) ag ⟨_,_,rfl,⟨ke,eW⟩,rfl⟩
 ·refine Tri.bd (args:=[ac 6]) ?_;refine JM ?_;intros;exact KX.d7 (by exact ResOk.cell rfl aK (ResOk.tmp rfl (ResOk.nil))) ag ⟨_,_,rfl,⟨eW,ke⟩,rfl⟩
 ·refine Tri.bd (args:=[ac 7]) ?_;refine JM ?_;intros;exact KX.d7 (by exact ResOk.cell rfl aK (ResOk.tmp rfl (ResOk.nil))) ag ⟨_,_,rfl,⟨eW,lg⟩,rfl⟩
 ·refine Tri.bd (args:=[ac 8]) ?_;refine JM ?_;intros;exact KX.d7 (by exact ResOk.cell rfl aK (ResOk.tmp rfl (ResOk.nil))) ag ⟨_,_,rfl,⟨eW,eW⟩,rfl⟩
 ·refine Tri.bd (args:=[ac 9]) ?_;refine JM ?_;intros;exact KX.d7 (by exact ResOk.cell rfl aK (ResOk.tmp rfl (ResOk.nil))) ag ⟨_,_,rfl,⟨lg,eW⟩,rfl⟩
 ·refine Tri.bd (args:=[ac 10]) ?_;refine JM ?_;intros;exact KX.d7 (by exact ResOk.cell rfl aK (ResOk.tmp rfl (ResOk.nil))) ag ⟨_,_,rfl,⟨lg,lg⟩,rfl⟩
def Ek{L:LH}(k:Int)(hk:¬(0≤k∧k≤10)):Tri ai 211 #[ac k] L (rtQ (.tuple #[.agg #[.nilFunc,.nilFunc,.bool false,.nilFunc],.bool false]) L):=by
 by_cases h:k<0
 ·refine Tri.bd ?_;refine JM ?_;intros;exact KX.d7 (by exact ResOk.cell rfl aK (ResOk.tmp rfl (ResOk.nil))) ag ⟨rfl,rfl⟩
 ·have h2:10<k:=ab;refine Tri.bd ?_;refine JM ?_;intros;exact KX.d7 (by exact ResOk.cell rfl aK (ResOk.tmp rfl (ResOk.nil))) ag ⟨rfl,rfl⟩
abbrev AB:=aG9 [.ev 4,.ef 5,.ev 6,.ev 7,.ev 8,.ev 9,.ev 10,.ev 11,.ev 12,.ev 13,.ev 14,.ev 15,.ev 16,.ev 17,.ev 18,.ev 19,.ev 20,.ev 21,.ef 22,.ev 23,.ev 24,.ev 25,.ev 26,.ev 27,.ev 28,.ev 29,.ev 30,.ev 31,.ev 32,.ev 33,.ev 34,.ev 35,.ev 36]
def aj9{φ ψ:Prop}(k:ψ)(h:Hid ψ→φ:=by intro k;(repeat (first|refine aa ?_|intro zzz|refine G.dr 70 2 AB ?_));(repeat revert zzz);exact Hid.out k):φ:=h ⟨k⟩
def CR{L R:LH}{b:Nat}{sh:Int}{x:LedX}[hp:PickObj L b tLed (bR sh x) R][hr:Rds L x.sad StV aN 7 x.steps](s:StV)[c0:Rds L s.mad MvV aL 5 s.moves](b7:∀m∈s.moves,m.m.parts.length≤9223372036854775807)(hc:x.cat.m.Ok)(hB:x.cat.B)(c1:x.steps.length≤65536)(b6:s.moves.length≤1000000)(a6:s.moves.length≤s.mcap)(hI:I64 s.rule)(h0:0≤xnow x) :
  Tri ai 123 #[ay b,aO (aN s)] (catP x.cat::stP s::L) (rtQ (.bool (dB (fL x.cat.m (xnow x) s.m))) (catP x.cat::stP s::L)):=by
 have b2:=hB.items;have b9:s.m.moves.length=s.moves.length:=by simp[StV.m]
 have hA:=possG_A (c:=x.cat.m) (now:=xnow x) (s:=s.m);have a1:∀{p:Prop},¬p→(fL x.cat.m (xnow x) s.m→p)→dB (fL x.cat.m (xnow x) s.m)=false:=fun h q=>aH (fun r=>h (q r));refine Tri.bd ?_;refine aj9 ?_;intros;rename_i b3;by_cases hk:0≤s.kind∧s.kind≤10
 case neg =>
  refine GO.cr (Ek s.kind hk) ?_;refine aj9 ?_;intros;exact KX.d7 an ag ⟨by rw[a1 hk (fun h=>(hA.1 h).1)];rfl,rfl⟩
 refine GO.ca (El s.kind hk) ?_;rintro _ _⟨ff,tf,rfl,⟨a9,b8⟩,rfl⟩;refine aj9 ?_;intros;rename_i b5;refine GPW.cr (kj s.actor) ?_;by_cases h1:accP s.actor
 case neg =>
  rw[aH h1];refine aj9 ?_;intros;exact KX.d7 an ag ⟨by rw[a1 h1 (fun h=>(hA.1 h).2.1)];rfl,rfl⟩
 rw[aU h1];by_cases h2:0≤s.tick
 case neg =>
  refine aj9 ?_;intros;exact KX.d7 an ag ⟨by rw[a1 h2 (fun h=>Int.le_trans h0 (hA.1 h).2.2.1.1)];rfl,rfl⟩
 by_cases h3:s.tick≤1099511627776
 case neg =>
  refine aj9 ?_;intros;exact KX.d7 an ag ⟨by rw[a1 h3 (fun h=>(hA.1 h).2.2.1.2)];rfl,rfl⟩
 refine aj9 ?_;intros;refine GPW.cr (vu (b:=b) (sh:=sh) (x:=x) ab) ?_;rw[show(x.steps.getLast?.map (·.tick)).getD 0=xnow x from rfl];by_cases h4:xnow x≤s.tick
 case neg =>
  refine aj9 ?_;intros;exact KX.d7 an ag ⟨by rw[a1 h4 (fun h=>(hA.1 h).2.2.1.1)];rfl,rfl⟩
 by_cases h5:1≤s.moves.length
 case neg =>
  refine aj9 ?_;intros;exact KX.d7 an ag ⟨by rw[a1 h5 (fun h=>by have:=(hA.1 h).2.2.2.1.1;omega)];rfl,rfl⟩
 by_cases h6:s.moves.length≤64
 case neg =>
  refine aj9 ?_;intros;exact KX.d7 an ag ⟨by rw[a1 h6 (fun h=>by have:=(hA.1 h).2.2.2.1.2;omega)];rfl,rfl⟩
 refine aj9 ?_;intros;refine G.loop (α:=Nat) (fun i=>i≤s.moves.length∧∀j:Nat,j<i→kA x.cat.items.length (kF s.kind) (kT s.kind) (kS s.kind) s.moves[j]!.m) (fun i=>[(0,ay b),(3,ay b3),(4,.bool false),(5,ay b5),(53,ah s.mad s.moves.length s.mcap),(54,ac (s.moves.length:Int)),(55,ac (i:Int))]) (fun _=>obj b5 CG [.func (.func ff) #[] #[],.func (.func tf) #[] #[],.bool (kS s.kind),.func (.func (kW s.kind)) #[] #[]]::obj b3 ba (aN s)::catP x.cat::stP s::L) (fun i=>s.moves.length - i) 0 ⟨ax _,fun j h=>absurd h ab⟩ av (Ent.refl _) ?_;rintro i ⟨hi,a8⟩;by_cases b4:i<s.moves.length
 case neg =>
  have b0:i=s.moves.length:=ab;subst b0
  have a4:∀m∈s.moves,kA x.cat.items.length (kF s.kind) (kT s.kind) (kS s.kind) m.m:=by
   intro m hm;obtain⟨j,hj,rfl⟩:=List.mem_iff_getElem.1 hm;have:=a8 j hj
   rw[getElem!_of hj] at this;exact this
  have a5:∀m∈s.m.moves,mvAP x.cat.m.items.length s.m.kind m:=by
   intro m hm;obtain⟨v,hv,rfl⟩:=List.mem_map.1 (show m∈s.moves.map MvV.m from hm);exact(FL hk).2 (a4 v hv)
  have a7:dB (fL x.cat.m (xnow x) s.m)=dB (jk x.cat.m.rules s.m):=by
   by_cases hw:jk x.cat.m.rules s.m
   ·rw[aU hw,aU (hA.2 ⟨hk,h1,⟨h4,h3⟩,⟨ab,ab⟩,a5,hw⟩)]
   ·rw[aH hw,aH (fun h=>hw (hA.1 h).2.2.2.2.2)]
  rw[a7];refine aj9 ?_;intros;by_cases a3:s.kind=4
  ·have e1:kW s.kind=259:=by unfold kW;rw[if_pos a3]
   have e2:dB (jk x.cat.m.rules s.m)=dB (fN x.cat.m.rules s.rule s.times (s.moves.map MvV.m)):=by
    have e:jk x.cat.m.rules s.m=fN x.cat.m.rules s.rule s.times (s.moves.map MvV.m):=by unfold jk;exact if_pos a3
    by_cases hw:fN x.cat.m.rules s.rule s.times (s.moves.map MvV.m)
    ·rw[aU hw,aU (e▸hw)]
    ·rw[aH hw,aH (e▸hw)]
   rw[e1,e2];refine GO.ent (Ent.at (A:=catP x.cat) (Ent.refl _)) ?_;refine GO.ef (Ef.d8 rfl rfl (qt (b:=b) (sh:=sh) (x:=x) s hc hB h6 a6 hI)) ae ?_;rintro _ _⟨rfl,rfl⟩;refine aj9 ?_;intros;exact KX.en ⟨rfl,rfl⟩
  by_cases a0:s.kind=10
  ·have e1:kW s.kind=260:=by unfold kW;rw[if_neg a3,if_pos a0]
   have e2:dB (jk x.cat.m.rules s.m)=dB (gS s.m):=by
    have e:jk x.cat.m.rules s.m=gS s.m:=by unfold jk;exact(if_neg a3).trans (if_pos a0)
    by_cases hw:gS s.m
    ·rw[aU hw,aU (e▸hw)]
    ·rw[aH hw,aH (e▸hw)]
   rw[e1,e2];refine GO.ef (Ef.d8 rfl rfl (yi b s (fun m hm=>by have:=(a4 m hm).2.1.1;omega) b6)) ae ?_;rintro _ _⟨rfl,rfl⟩;refine aj9 ?_;intros;exact KX.en ⟨rfl,rfl⟩
  ·have e1:kW s.kind=257:=by unfold kW;rw[if_neg a3,if_neg a0]
   have e2:dB (jk x.cat.m.rules s.m)=dB (jo s.rule s.times):=by
    have e:jk x.cat.m.rules s.m=jo s.rule s.times:=by unfold jk;exact(if_neg a3).trans (if_neg a0)
    by_cases hw:jo s.rule s.times
    ·rw[aU hw,aU (e▸hw)]
    ·rw[aH hw,aH (e▸hw)]
   rw[e1,e2];refine GO.ef (Ef.d8 rfl rfl (qq b s)) ae ?_;rintro _ _⟨rfl,rfl⟩;refine aj9 ?_;intros;exact KX.en ⟨rfl,rfl⟩
 have b1:(i:Int).toNat=i:=ab;have a2:=aJ b4;refine G.ent (L':=isl aj 3 s.moves[i]!.pad s.moves[i]!.m.parts::obj b5 CG [.func (.func ff) #[] #[],.func (.func tf) #[] #[],.bool (kS s.kind),.func (.func (kW s.kind)) #[] #[]]::obj b3 ba (aN s)::catP x.cat::stP s::L) ((Ent.at (A:=stP s) (Ent.e7 (f:=mvP) a2)).trans ag) ?_;refine aj9 ?_;intros;rw[b1];refine GO.cr (Em (b:=b) (sh:=sh) (x:=x) ff tf (kW s.kind) (kF s.kind) (kT s.kind) (kS s.kind) a9 b8 s.moves[i]! (b7 _ a2) b2) ?_;by_cases h7:kA x.cat.items.length (kF s.kind) (kT s.kind) (kS s.kind) s.moves[i]!.m
 case neg =>
  rw[aH h7];refine aj9 ?_;intros;refine KX.d7 an ag ⟨?_,rfl⟩;rw[a1 h7 (fun h=>(FL hk).1 ((hA.1 h).2.2.2.2.1 s.moves[i]!.m (alStd0List_mem_map_of_mem a2)))];rfl
 rw[aU h7];refine aj9 ?_;intros;refine⟨i+1,⟨ab,?_⟩,ab,?_,by exact ag⟩
 ·intro j hj;rcases cm j i with h|h
  ·exact a8 j h
  ·obtain rfl:j=i:=ab;exact h7
 ·rw[aY i];exact av
abbrev AE:=aH2 [.ev 10,.ev 11]
abbrev xL:=aH3 [.ef 13,.ev 14]
def cD{φ ψ:Prop}(k:ψ)(h:Hid ψ→φ:=by intro k;(with_reducible apply G.d7);first|refine G.dr 116 4 AE (Hid.out k)|refine G.dr 116 10 xL (Hid.out k)):φ:=h ⟨k⟩
def al7{φ ψ:Prop}(k:ψ)(h:Hid ψ→φ:=by intro k;(repeat (first|refine aa ?_|intro zzz|refine cD ?_));(repeat revert zzz);exact Hid.out k):φ:=h ⟨k⟩
def xq{L:LH}(b bc:Nat)(sh:Int)(x:LedX)(s:StV)(z:ChG)(l:LL)(hm:SetS (uOf z.ret x.ret) l)(hl:l.length≤2000)(e3:∀y∈l,LotOk y)(m:MvV)[hr:Rds L m.pad Lot aj 3 m.m.parts](hp:∀p∈m.m.parts,LotOk p)(hb:∀p∈m.m.parts,p.1≤9223372036854775807)(f0:m.m.parts.length≤2000)(f2:0≤sh∧sh<12)(g1:x.flows.length≤9000000)(d0:∀f∈x.flows,f.m.n≤9223372036854775807) :
  Tri ai 266 #[ay bc,aO (aL m)] (chgL b bc s z (ledL b sh x L)) (fun v L'=>∃u,v=ac (retG sh (x.flows.map FlV.m) m.m.item m.m.parts l)∧(retG sh (x.flows.map FlV.m) m.m.item m.m.parts l=0→SetS (uOf u x.ret) (l++m.m.parts))∧L' = chgL b bc s { z with ret:=u } (ledL b sh x L)):=by
 obtain⟨⟨frm,to,item,mn,parts⟩,pad,pcap⟩:=m;dsimp only at hr hp hb f0 ⊢;generalize hfe:x.flows.map FlV.m=fl;have c8:fl.length=x.flows.length:=by rw[←hfe,az]
 refine Tri.bd (args:=[ay bc,aO (aL ⟨⟨frm,to,item,mn,parts⟩,pad,pcap⟩)]) ?_;simp only[aL,chgL,cn,ledL,bR];refine al7 ?_;intros;rename_i b3;refine G.loop (α:=Nat×List (Int×Stk)) (fun g=>g.1≤parts.length∧SetS (uOf g.2 x.ret) (l++parts.take g.1)∧retG sh fl item parts l=retG sh fl item (parts.drop g.1) (l++parts.take g.1)) (fun g=>[(0,ay bc),(3,ay b3),(13,ah pad parts.length pcap),(14,ac parts.length),(15,ac (g.1:Int))]) (fun g=>chgL b bc s { z with ret:=g.2 } (ledL b sh x (obj b3 tMv [ac frm,ac to,ac item,ac mn,ah pad parts.length pcap]::L))) (fun g=>parts.length - g.1) (0,z.ret) ⟨ax _,by rw[bK,aR];exact hm,by rw[bK,aR];rfl⟩ av (by(try simp only[chgL,cn,ledL,bR]);exact ag) ?_;rintro⟨i,mp⟩ ⟨hi,a4,hg⟩;dsimp only at hi a4 hg ⊢;by_cases b1:i<parts.length
 case neg =>
  rw[bG ab,aD ab] at hg;rw[aD ab] at a4;have e0:retG sh fl item parts l=0:=hg;rw[e0];(try simp only[chgL,cn,ledL,bR]);refine al7 ?_;intros;refine KX.d7 an ?_ ⟨mp,rfl,fun _=>a4,rfl⟩;(try simp only[chgL,cn,ledL,bR]);exact ag
 have e2:(i:Int).toNat=i:=aC i;have e4 : (i:Int).toNat<parts.length:=ab;have e1:parts[(i:Int).toNat]! = parts[i]!:=by rw[e2]
 have b5:l++parts.take (i+1)=l++parts.take i++[parts[(i:Int).toNat]!]:=by rw[e1,aG b1,getElem!_of b1,aF]
 have e5:(l++parts.take i).length≤4000:=by rw[aq,bg];omega
 have b0:∀y∈l++parts.take i,LotOk y:=fun y hy=>by
  rcases List.mem_append.1 hy with q|q
  ·exact e3 y q
  ·exact hp y (cc q)
 have c4:=hb _ (aJ b1);have a5:=hp _ (aJ b1);rw[←e1] at c4 a5;rw[ej b1,mj,←e1] at hg;rw[←b5] at hg;have e6:retG sh fl item parts l≠0→(retG sh fl item parts l=0→SetS (uOf mp x.ret) (l++parts)):=fun h q=>absurd q h;obtain⟨p,c6⟩:∃p,parts[(i:Int).toNat]! = p:=⟨_,rfl⟩;rw[c6] at c4 a5 hg b5;clear e1;have c0:=a5;unfold LotOk at c0;have a8:=xd a4 b0 a5;(try simp only[chgL,cn,ledL,bR]);refine al7 ?_;intros;rw[c6];simp only[aj];refine al7 ?_;intros;obtain⟨k,hk⟩:∃k,k=p.1 - sh*4294967296:=⟨_,rfl⟩;have a2:gotB sh fl item p↔(0≤k∧k<fl.length)∧fl[k.toNat]!.to=0∧fl[k.toNat]!.kind≠6∧fl[k.toNat]!.item=item∧p.2.1+p.2.2≤fl[k.toNat]!.n:=by rw[hk];rfl
 have a9:¬gotB sh fl item p→retG sh fl item parts l=10:=fun q=>by rw[hg,if_neg (fun r=>q r.1)]
 obtain⟨f3,f4⟩:=f2;rw[←hk];by_cases d1:0≤k
 case neg =>
  rw[a9 (fun q=>d1 (a2.1 q).1.1)];refine al7 ?_;intros;exact KX.d7 an (by(try simp only[chgL,cn,ledL,bR]);exact ag) ⟨mp,rfl,fun h=>absurd h ae,rfl⟩
 by_cases d2:k<x.flows.length
 case neg =>
  rw[a9 (fun q=>d2 (by have:=(a2.1 q).1.2;omega))];refine al7 ?_;intros;exact KX.d7 an (by(try simp only[chgL,cn,ledL,bR]);exact ag) ⟨mp,rfl,fun h=>absurd h ae,rfl⟩
 have c5:k.toNat<x.flows.length:=ab;obtain⟨f,hf⟩:∃f,x.flows[k.toNat]! = f:=⟨_,rfl⟩;have c9:fl[k.toNat]! = f.m:=by rw[←hfe,←hf];exact dI FlV.m c5
 have b9:=d0 _ (aJ c5);rw[hf] at b9;rw[c9] at a2;refine al7 ?_;intros;rw[hf];simp only[aQ];by_cases d3:f.m.to=0
 case neg =>
  rw[a9 (fun q=>d3 (a2.1 q).2.1)];refine al7 ?_;intros;exact KX.d7 an (by(try simp only[chgL,cn,ledL,bR]);exact ag) ⟨mp,rfl,fun h=>absurd h ae,rfl⟩
 by_cases d4:f.m.kind=6
 case pos =>
  rw[a9 (fun q=>(a2.1 q).2.2.1 d4)];refine al7 ?_;intros;exact KX.d7 an (by(try simp only[chgL,cn,ledL,bR]);exact ag) ⟨mp,rfl,fun h=>absurd h ae,rfl⟩
 by_cases d5:f.m.item=item
 case neg =>
  rw[a9 (fun q=>d5 (a2.1 q).2.2.2.1)];refine al7 ?_;intros;exact KX.d7 an (by(try simp only[chgL,cn,ledL,bR]);exact ag) ⟨mp,rfl,fun h=>absurd h ae,rfl⟩
 by_cases d6:p.2.1+p.2.2≤f.m.n
 case neg =>
  rw[a9 (fun q=>d6 (a2.1 q).2.2.2.2)];refine al7 ?_;intros;exact KX.d7 an (by(try simp only[chgL,cn,ledL,bR]);exact ag) ⟨mp,rfl,fun h=>absurd h ae,rfl⟩
 have cg:gotB sh fl item p:=a2.2 ⟨⟨d1,ab⟩,d3,d4,d5,d6⟩;clear a9 a2;refine al7 ?_;intros;refine GPW.cr (sW (z:=mp) (x:=x.ret) p.1) ?_;have b4:=a4.ok p.1;have a7:=a4.cap p.1;have f5:=a4.len p.1;have a6:=fun (h:¬ ∃y∈(uOf mp x.ret p.1).lots,¬apart y p) (ys:LL) (hy:fj hdC ((uOf mp x.ret p.1).lots++[p]) ys) (s' : Stk) (h1:s'.lots=zset ys) (h2:(zset ys).length≤s'.cap)=>xe (g':=uOf (gins mp p.1 s') x.ret) a4 b0 a5 h hy (by rw[kJ,if_pos rfl,h1]) (by rw[kJ,if_pos rfl];exact h2) (fun f e=>by rw[kJ,if_neg e]);have b2:=fun M:LH=>qS (z:=mp) (x:=x.ret) p.1 (L:=M);generalize uOf mp x.ret p.1=sk at *;obtain⟨sad,scap,a0⟩:=sk;dsimp only at b4 a7 f5 a6 a8
 have c7:∀y∈a0++[p],LotOk y:=fun y hy=>by
  rcases List.mem_append.1 hy with q|q
  ·exact b4.ok y q
  ·rw[List.mem_singleton.1 q];exact a5
 simp only[Stk.v];refine al7 ?_;intros;rename_i b6 b8 bl;refine GO.ent (L':=[isl aj 3 (some ⟨bl,0,none⟩) [p],isl aj 3 sad a0]++(isl aj 3 sad a0::chgL b bc s { z with ret:=mp } (ledL b sh x (obj b6 tLot (aj p)::obj b3 tMv [ac frm,ac to,ac item,ac mn,ah pad parts.length pcap]::L)))) ?_ ?_
 ·refine(Ent.at (A:=obj bl tLot [ac p.1,ac p.2.1,ac p.2.2]) (Ent.f7 (enc:=aj) (sz:=3) (xs:=[p]) (n:=1) rfl rfl (fun _ _=>rfl) ae)).trans (Ent.freezeSl.trans ?_);refine(Ent.at (A:=allP (fun p:Int×Stk=>stkP p.2) mp) (Ent.refl _)).trans ?_;refine(Ent.d7 (Ent.at (A:=allP (fun p:Int×Stk=>stkP p.2) x.ret) (Ent.refl _))).trans ?_;refine(b2 _).trans ?_;refine Ent.trans (show Ent (stkP ⟨sad,scap,a0⟩::_) (isl aj 3 sad a0::_) from Ent.refl _) ?_;refine(Ent.dup (bM _ _ _ _).pers).trans ?_;simp only[chgL,cn,ledL,bR,aj,ao,al];exact ag
 simp only[ao,al];(first|refine GO.ef (Ef.call (qH (some ⟨bl,0,none⟩) 1 [p] sad scap a0 (by rw[aM];decide) ab (fun y hy=>by rw[List.mem_singleton.1 hy];exact a5) b4) rfl cN) ae ?_);rintro _ _⟨_,⟨f6,f9,ad2,g0,rfl,rfl⟩,hL⟩;simp only[ao,al] at hL;subst hL;have c1:=BR b4 a5;generalize hpi:(pcI [p] a0).length=pn at c1;refine al7 ?_;intros;by_cases c3:∃y∈a0,¬apart y p
 ·have f1:=c1.2 c3;rw[if_neg (fun q=>q.2 (a8.1 c3))] at hg;rw[hg] at e6 ⊢;(try simp only[chgL,cn,ledL,bR]);refine al7 ?_;intros;exact KX.d7 an (by(try simp only[chgL,cn,ledL,bR]);exact ag) ⟨mp,rfl,fun h=>absurd h ae,rfl⟩
 have f1:¬0<pn:=fun q=>c3 (c1.1 q);rw[if_pos ⟨cg,fun q=>c3 (a8.2 q)⟩] at hg;repeat first|refine G.sn 14 ?_|refine bV ?_|intro _|refine cD ?_
 refine G.ent (L':=asl aj 3 tLot sad a0.length a0::obj b6 tLot [ac p.1,ac p.2.1,ac p.2.2]::chgL b bc s { z with ret:=mp } (ledL b sh x (obj b3 tMv [ac frm,ac to,ac item,ac mn,ah pad parts.length pcap]::L))) ?_ ?_
 ·refine(Ent.at (A:=isl aj 3 sad a0) (Ent.m8 (E:=tLot) (by simp only[maxLen];omega))).trans ?_;(try simp only[chgL,cn,ledL,bR,aj]);exact ag
 ·skip;simp only[chgL,cn,ledL,bR];refine G.e7 mixed krStd0 ?_;refine GF.evP (i:=0) rfl krStd0 (Ev.move rfl) ae ?_;refine GF.evP (i:=1) rfl krStd0 (Ev.nilCheck rfl) ae ?_;refine GF.evP (i:=2) rfl krStd0 (by first|exact Ev.fieldAddr rfl|exact Ev.e9 rfl) ae ?_;refine GF.evL (i:=3) rfl krStd0 (by first|exact Ev.d8 rfl rfl|exact Ev.d7 rfl aK|exact Ev.d9 rfl rfl|exact Ev.e7 rfl ab|exact Ev.f7 rfl ab ae rfl) ae ?_;refine GF.evP (i:=4) rfl krStd0 (by first|exact Ev.fieldAddr rfl|exact Ev.e9 rfl) ae ?_;refine GF.evL (i:=5) rfl krStd0 (by first|exact Ev.d8 rfl rfl|exact Ev.d7 rfl aK|exact Ev.d9 rfl rfl|exact Ev.e7 rfl ab|exact Ev.f7 rfl ab ae rfl) ae ?_;refine GF.evP (i:=6) rfl krStd0 (Ev.move rfl) ae ?_;refine GF.evL (i:=8) rfl krStd0 (by first|exact Ev.d8 rfl rfl|exact Ev.d7 rfl aK|exact Ev.d9 rfl rfl|exact Ev.e7 rfl ab|exact Ev.f7 rfl ab ae rfl) ae ?_;refine GF.d7 7 9 krStd0 ?_ ?_
  ·refine GE.ef rfl (Ef.g8 (jq sad a0.length scap a7) rfl) ae ?_;rintro _ _⟨rfl,rfl⟩;refine⟨(by intro pe hp;simp only[bA,aV,or_false] at hp;rcases hp with rfl|rfl|rfl<;>first|exact Ev.d8 rfl rfl|exact Ev.d7 rfl aK|exact Ev.d9 rfl rfl),?_⟩;refine GF.plan [.ef 9,.ef 10,.ef 11,.ef 12] krStd0 rfl ?_;refine al7 ?_;intros;refine GPW.ef (Ef.j0 (enc:=aj) (e:=p) rfl rfl rfl rfl rfl aK (bX _) ab ab) ae ?_;rintro _ _⟨ad3,cap3,rfl,rfl⟩;refine al7 ?_;intros;refine GPW.ca (jY ad3 (a0++[p]).length cap3 (a0++[p]) rfl (by rw[aq,aM];omega) c7) ?_;rintro _ _⟨a3,a1,ys,rfl,c2,rfl⟩;refine al7 ?_;intros;refine GPW.fct (gA (ad:=a3) (cap:=a1) (xs:=zset ys) (enc:=aj) (sz:=3) (E:=tLot)) ?_;rintro⟨b7,_⟩;refine GPW.efu (Ef.e8 (enc:=Stk.v) (e:=(⟨a3,a1,zset ys⟩:Stk)) rfl rfl rfl rfl) ?_;rintro _ _⟨rfl,rfl⟩;refine al7 ?_;intros;refine⟨(i+1,gins mp p.1 ⟨a3,a1,zset ys⟩),⟨by dsimp only;omega,by dsimp only;rw[b5];exact a6 c3 ys c2 ⟨a3,a1,zset ys⟩ rfl b7,hg⟩,by dsimp only;omega,by dsimp only;rw[aY i];exact av,?_⟩;refine(Ent.frz a3).trans ?_;refine(Ent.at (A:=allP (fun p:Int×Stk=>stkP p.2) mp) (Ent.refl _)).trans ?_;refine(Ent.at (A:=isl aj 3 a3 (zset ys)) (lI (s:=⟨a3,a1,zset ys⟩) (k:=p.1))).trans ?_;simp only[chgL,cn,ledL,bR];exact ag
  ·refine GE.ef rfl (Ef.lit rfl rfl ae rfl) ae ?_;rintro _ _⟨bm,rfl,rfl⟩;refine⟨(by intro pe hp;simp only[bA,aV,or_false] at hp;rcases hp with rfl|rfl|rfl<;>first|exact Ev.d8 rfl rfl|exact Ev.d7 rfl aK|exact Ev.d9 rfl rfl),?_⟩;refine GF.plan [.ef 7,.ef 10,.ef 11,.ef 12] krStd0 rfl ?_;refine al7 ?_;intros;refine GPW.cr (jq sad a0.length scap a7) ?_;refine al7 ?_;intros;refine GPW.ef (Ef.j0 (enc:=aj) (e:=p) rfl rfl rfl rfl rfl aK (bX _) ab ab) ae ?_;rintro _ _⟨ad3,cap3,rfl,rfl⟩;refine al7 ?_;intros;refine GPW.ca (jY ad3 (a0++[p]).length cap3 (a0++[p]) rfl (by rw[aq,aM];omega) c7) ?_;rintro _ _⟨a3,a1,ys,rfl,c2,rfl⟩;refine al7 ?_;intros;refine GPW.fct (gA (ad:=a3) (cap:=a1) (xs:=zset ys) (enc:=aj) (sz:=3) (E:=tLot)) ?_;rintro⟨b7,_⟩;refine GPW.efu (Ef.e8 (enc:=Stk.v) (e:=(⟨a3,a1,zset ys⟩:Stk)) rfl rfl rfl rfl) ?_;rintro _ _⟨rfl,rfl⟩;refine al7 ?_;intros;refine⟨(i+1,gins mp p.1 ⟨a3,a1,zset ys⟩),⟨by dsimp only;omega,by dsimp only;rw[b5];exact a6 c3 ys c2 ⟨a3,a1,zset ys⟩ rfl b7,hg⟩,by dsimp only;omega,by dsimp only;rw[aY i];exact av,?_⟩;refine(Ent.frz a3).trans ?_;refine(Ent.at (A:=allP (fun p:Int×Stk=>stkP p.2) mp) (Ent.refl _)).trans ?_;refine(Ent.at (A:=isl aj 3 a3 (zset ys)) (lI (s:=⟨a3,a1,zset ys⟩) (k:=p.1))).trans ?_;simp only[chgL,cn,ledL,bR];exact ag
def yu{sh:Int}{fl fw:List FlM}(h:∀f∈fw,f.to≠0)(item:Int)(p:Lot):gotB sh (fl++fw) item p↔gotB sh fl item p:=by
 unfold gotB;by_cases c:p.1 - sh*4294967296<fl.length∧0≤p.1 - sh*4294967296
 ·obtain⟨c1,c0⟩:=c
  have e:(fl++fw)[(p.1 - sh*4294967296).toNat]! = fl[(p.1 - sh*4294967296).toNat]!:=by
   rw[getElem!_of (by rw[aq];omega),getElem!_of ab,List.getElem_append_left]
  rw[e,aq];exact⟨fun q=>⟨⟨c0,c1⟩,q.2⟩,fun q=>⟨⟨c0,ab⟩,q.2⟩⟩
 ·constructor
  ·rintro⟨⟨q0,q1⟩,q2,_⟩;rw[aq] at q1;have hk:(p.1 - sh*4294967296).toNat<(fl++fw).length:=by rw[aq];omega
   have hm:(fl++fw)[(p.1 - sh*4294967296).toNat]!∈fw:=by
    rw[getElem!_of hk,List.getElem_append_right ab];exact ew _
   exact absurd q2 (h _ hm)
  ·rintro⟨⟨q0,q1⟩,_⟩;exact absurd ⟨q1,q0⟩ c
def xp{sh:Int}{fl fw:List FlM}(h:∀f∈fw,f.to≠0)(item:Int):∀(ps l:LL),retG sh (fl++fw) item ps l=retG sh fl item ps l
 | [],_=>rfl
 | p::ps,l=>by
  rw[mj,mj,xp h item ps];by_cases c:gotB sh fl item p∧¬ ∃y∈ofF l p.1,ovP p y
  ·rw[if_pos c,if_pos ⟨(yu h item p).2 c.1,c.2⟩]
  ·rw[if_neg c,if_neg (fun q=>c ⟨(yu h item p).1 q.1,q.2⟩)]
abbrev AA:=aH2 [.ev 10]
abbrev Az:=aH2 []
def ao1{φ ψ:Prop}(k:ψ)(h:Hid ψ→φ:=by intro k;(repeat (first|refine aa ?_|intro zzz|refine G.dr 33 2 AA ?_|refine G.dr 33 5 Az ?_));(repeat revert zzz);exact Hid.out k):φ:=h ⟨k⟩
def rv{L R1 R2 R3 R4:LH}{b bc:Nat}{sh:Int}{x:LedX}{s:StV}{z:ChG}[a0:PickObj L b tLed (bR sh x) R1][a1:PickObj L bc tCh (cn b s z) R2][a2:PickG L z.cs (Int×Int) Stk kvP Stk.v z.stk R3][a3:PickG L x.ms (Int×Int) Stk kvP Stk.v x.stk R4](a i:Int) :
  Tri ai 216 #[ay bc,ac a,ac i] L (rtQ ((uOf z.stk x.stk (a,i)).v) L):=by
 refine Tri.bd ?_;refine ao1 ?_;intros;refine GPW.evL (Ev.l9 rfl rfl) ae ?_;cases h:@List.lookup _ _ instBEqOfDecidableEq (a,i) z.stk with
 | some k =>
  simp only[fm,gn,Option.isSome_some];refine ao1 ?_;intros;refine KX.d7 an ag ⟨?_,rfl⟩;unfold uOf glk;rw[h];rfl
 | none =>
  simp only[eO,el,Option.isSome_none];refine ao1 ?_;intros;refine GPW.evL (Ev.e8 rfl rfl) ae ?_;rw[ob];refine ao1 ?_;intros;refine KX.d7 an ag ⟨?_,rfl⟩;unfold uOf glk;rw[h];rfl
structure WdG (x:LedX) (z:ChG) (m:MvM):Prop where
 item:0≤m.item∧m.item<x.cat.items.length
 n:0≤m.n∧m.n≤1099511627776
 pv:dQ m.parts
 pa:Apart m.parts
 sv:dQ (uOf z.stk x.stk (m.frm,m.item)).lots
 sa:Apart (uOf z.stk x.stk (m.frm,m.item)).lots
def lO(own:LL)(m:MvM):Prop:=if m.parts=[] then lsum own<m.n else ¬fx m.parts own
def sU(mixed:Bool)(own:LL)(m:MvM):LL:=if m.parts=[] then gW mixed own m.n else m.parts
def wK(mixed:Bool)(own:LL)(m:MvM):LL:=if m.parts=[] then eU mixed own m.n else dS own m.parts
abbrev Ay:=aH3 [.ev 13,.ev 14,.ev 15,.ef 16,.ev 17,.ev 18,.ev 19,.ev 20,.ev 21,.ev 22,.ev 23]
abbrev Ax:=aH0 [.ef 6]
abbrev xK:=aH1 [.ef 8,.ef 9]
def ao5{φ ψ:Prop}(k:ψ)(h:Hid ψ→φ:=by intro k;(repeat (first|refine aa ?_|intro zzz|refine G.dr 73 4 Ay ?_|refine G.dr 73 7 Ax ?_|refine G.dr 73 11 xK ?_));(repeat revert zzz);exact Hid.out k):φ:=h ⟨k⟩
def uo{L:LH}(b bc:Nat)(sh:Int)(x:LedX)(s:StV)(z:ChG)(m:MvV)(h:WdG x z m.m)(hT:TakeC (bN x m.m.item))(b6:x.cat.items.length≤64) :
  Tri ai 264 #[ay bc,aO (aL m)] (isl aj 3 m.pad m.m.parts::chgL b bc s z (ledL b sh x L)) (fun v L' =>
   (lO (uOf z.stk x.stk (m.m.frm,m.m.item)).lots m.m∧v=.tuple #[ah none 0 0,ac 10]∧L' = chgL b bc s z (ledL b sh x L)) ∨
   (¬lO (uOf z.stk x.stk (m.m.frm,m.m.item)).lots m.m∧∃pad pcap sk,v=.tuple #[ah pad (sU (bN x m.m.item) (uOf z.stk x.stk (m.m.frm,m.m.item)).lots m.m).length pcap,ac 0]∧sk.lots=wK (bN x m.m.item) (uOf z.stk x.stk (m.m.frm,m.m.item)).lots m.m ∧
    L' = isl aj 3 pad (sU (bN x m.m.item) (uOf z.stk x.stk (m.m.frm,m.m.item)).lots m.m)::chgL b bc s { z with stk:=gins z.stk (m.m.frm,m.m.item) sk } (ledL b sh x L))):=by
 obtain⟨⟨b1,b2⟩,⟨a9,b0⟩,a6,a7,a3,a8⟩:=h;have b4:=a6.2;obtain⟨⟨frm,to,item,mn,parts⟩,a1,a2⟩:=m;dsimp only at b1 b2 a9 b0 a6 a7 a3 a8 b4 hT ⊢;refine Tri.bd (args:=[ay bc,aO (aL ⟨⟨frm,to,item,mn,parts⟩,a1,a2⟩)]) ?_;refine G.ent (L':=stkP (uOf z.stk x.stk (frm,item))::isl dD 7 x.cat.iad x.cat.items::isl aj 3 a1 parts::chgL b bc s z (ledL b sh x L)) ?_ ?_
 ·simp only[chgL,ledL];refine(Ent.at (A:=catP x.cat) pu).trans ?_;refine(Ent.at (A:=allP (fun p:(Int×Int)×Stk=>stkP p.2) z.stk) (Ent.refl _)).trans ?_;refine(Ent.d7 (Ent.at (A:=allP (fun p:(Int×Int)×Stk=>stkP p.2) x.stk) (Ent.refl _))).trans ?_;refine(qS (frm,item)).trans ?_;exact ag
 simp only[chgL,ledL,aL];refine ao5 ?_;intros;rename_i b3;refine GO.cr (rv (b:=b) (sh:=sh) (x:=x) (s:=s) (z:=z) frm item) ?_;generalize hsk:uOf z.stk x.stk (frm,item)=sk at *;obtain⟨sad,scap,a0⟩:=sk;dsimp only at a3 a8 ⊢;have b5:=a3.2;simp only[Stk.v];by_cases hp:parts.length=0
 ·have a5:parts=[]:=aX hp;subst a5;have eB:lO a0 ⟨frm,to,item,mn,[]⟩↔lsum a0<mn:=by unfold lO;rw[if_pos rfl]
  have eP:sU (bN x item) a0 ⟨frm,to,item,mn,[]⟩=gW (bN x item) a0 mn:=if_pos rfl;have eL:wK (bN x item) a0 ⟨frm,to,item,mn,[]⟩=eU (bN x item) a0 mn:=if_pos rfl;rw[eB,eP,eL];refine ao5 ?_;intros;refine GPW.ent (Ent.at (A:=stkP ⟨sad,scap,a0⟩) (Ent.refl _)) ?_;refine GPW.ca (hT.tri _ sad scap a0 mn b5 a3.1 a9 b0) ?_;rintro _ _ (⟨h1,rfl,rfl⟩|⟨h1,a4,c1,ad2,c2,rfl,rfl⟩)
  ·refine ao5 ?_;intros;exact KX.en (.inl ⟨h1,rfl,rfl⟩)
  ·refine ao5 ?_;intros;refine GPW.efu (Ef.e8 (enc:=Stk.v) (e:=(⟨ad2,c2,eU (bN x item) a0 mn⟩:Stk)) rfl rfl rfl rfl) ?_;rintro _ _ rfl;refine ao5 ?_;intros;refine KX.d7 an ?_ (.inr ⟨ab,a4,c1,⟨ad2,c2,eU (bN x item) a0 mn⟩,rfl,rfl,rfl⟩);refine(Ent.frz a4).trans ((Ent.frz ad2).trans ?_);refine(Ent.at (A:=allP (fun p:(Int×Int)×Stk=>stkP p.2) z.stk) (Ent.refl _)).trans ?_;refine(Ent.at (A:=stkP ⟨ad2,c2,eU (bN x item) a0 mn⟩) (lI (k:=(frm,item)))).trans ?_;exact ag
 have a5:¬parts=[]:=fun q=>hp (by rw[q];rfl);have eB:lO a0 ⟨frm,to,item,mn,parts⟩↔¬fx parts a0:=by unfold lO;rw[if_neg a5]
 have eP:sU (bN x item) a0 ⟨frm,to,item,mn,parts⟩=parts:=if_neg a5;have eL:wK (bN x item) a0 ⟨frm,to,item,mn,parts⟩=dS a0 parts:=if_neg a5;rw[eB,eP,eL];refine ao5 ?_;intros;refine GO.ent ((Ent.at (A:=isl aj 3 a1 parts) (Ent.dup (bM _ _ _ _).pers)).trans ((Ent.at (A:=stkP ⟨sad,scap,a0⟩) (Ent.dup (bM aj 3 sad a0).pers)).trans (Ent.at (A:=isl aj 3 a1 parts) (Ent.refl _)))) ?_;refine GO.cr (ym a1 a2 parts sad scap a0 a6 a7 a3 a8) ?_;by_cases hw:fx parts a0
 case neg =>
  rw[aH hw];refine ao5 ?_;intros;exact KX.en (.inl ⟨hw,rfl,rfl⟩)
 rw[aU hw];refine ao5 ?_;intros;refine GPW.ca (wj sad scap a0 a1 a2 parts a6 a7 a3) ?_;rintro _ _⟨ad2,c2,rfl,rfl⟩;refine ao5 ?_;intros;refine GPW.efu (Ef.e8 (enc:=Stk.v) (e:=(⟨ad2,c2,dS a0 parts⟩:Stk)) rfl rfl rfl rfl) ?_;rintro _ _ rfl;refine ao5 ?_;intros;refine GO.ca (hM a1 parts.length a2 parts rfl ab) ?_;rintro _ _⟨a4,c1,rfl,rfl⟩;refine ao5 ?_;intros;refine KX.d7 an ?_ (.inr ⟨fun q=>q hw,a4,c1,⟨ad2,c2,dS a0 parts⟩,rfl,rfl,rfl⟩);refine(Ent.frz a4).trans ((Ent.frz ad2).trans ?_);refine(Ent.at (A:=allP (fun p:(Int×Int)×Stk=>stkP p.2) z.stk) (Ent.refl _)).trans ?_;refine(Ent.at (A:=isl aj 3 ad2 (dS a0 parts)) (lI (s:=⟨ad2,c2,dS a0 parts⟩) (k:=(frm,item)))).trans ?_;exact ag
