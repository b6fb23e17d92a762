/- Lemmas. -/
import Derived.Test.YtommnllbflbdmaaGreatDoorAcc
import Derived.Test.YtommnllbflbdmaaGreatDoorAbu
set_option linter.all false
set_option maxHeartbeats 8000000
namespace Go.Proofs.YtommnllbflbdmaaGreatDoor
section
open Go.V
attribute [local irreducible] G GO GP GPW GPK GF GE Ev Ef EfR Ent CB GB V.Enters
def xS{L:LH}(b:Nat)(s:StV)[hr:Rds L s.mad MvV aM 5 s.moves](hn:∀m∈s.moves,0≤m.m.n)(hl:s.moves.length≤1000000) :
  Tri ai 260 #[ax b,aN (aT s)] L (fun v L'=>v=.bool (dB (gO s.m))∧L' = L):=by
 have a0:s.m.moves.length=s.moves.length:=by show(s.moves.map MvV.m).length=_;rw[aA]
 refine Tri.bd ?_;simp only[aT];by_cases c1:s.rule = -1
 case neg =>
  rw[aG (show ¬gO s.m from fun q=>c1 q.1)];refine Jq ?_;intros;exact KX.en ⟨rfl,rfl⟩
 refine Jq ?_;intros;refine GO.cr (qm s.times) ?_;by_cases c2:iz s.times
 case neg =>
  rw[aG c2,aG (show ¬gO s.m from fun q=>c2 q.2.1)];refine Jq ?_;intros;exact KX.en ⟨rfl,rfl⟩
 rw[aS c2];by_cases c3:s.moves.length=2
 case neg =>
  rw[aG (show ¬gO s.m from fun q=>c3 (a0.symm.trans q.2.2.1))];refine Jq ?_;intros;exact KX.en ⟨rfl,rfl⟩
 have e0:s.m.moves[0]! = s.moves[0]!.m:=el _ (ab:0<s.moves.length);have e1:s.m.moves[1]! = s.moves[1]!.m:=el _ (ab:1<s.moves.length);have n0:=hn _ (aI (ab:0<s.moves.length));have n1:=hn _ (aI (ab:1<s.moves.length))
 have e:gO s.m↔s.moves[0]!.m.to=0∧s.moves[1]!.m.frm=0∧s.moves[1]!.m.to=s.moves[0]!.m.frm∧s.moves[0]!.m.n % s.times=0∧s.moves[1]!.m.n % s.times=0:=by
  unfold gO;rw[e0,e1];exact⟨fun q=>q.2.2.2,fun q=>⟨c1,c2,a0.trans c3,q⟩⟩
 unfold iz at c2;have t0:(0:Int).toNat=0:=rfl;have t1:(1:Int).toNat=1:=rfl;have i0:(0:Int).toNat<s.moves.length:=ab;have i1:(1:Int).toNat<s.moves.length:=ab;rw[←t0] at e n0;rw[←t1] at e n1;rw[gh e];clear e0 e1 e;repeat first|((fail_if_success (with_reducible refine G.atS 3 ?_));(with_reducible apply G.seq))|refine bW ?_|intro
 rename_i b1;refine G.d8 (α:=Nat×Nat) (fun _=>True) (fun g=>[(3,ax b1),(5,.pointer (some ⟨g.1,0,none⟩)),(6,.pointer (some ⟨g.2,0,none⟩))]) (fun g=>obj g.1 tMv (aM s.moves[(0:Int).toNat]!)::obj g.2 tMv (aM s.moves[(1:Int).toNat]!)::obj b1 be [ac s.id,ac s.kind,ac s.actor,ac s.tick,ac s.rule,ac s.times,ah s.mad s.moves.length s.mcap]::L) ?_ ?_
 ·refine G.e9 mixed krStd0 ?_;refine GF.evP (i:=0) rfl krStd0 (Ev.fieldAddr rfl) ag ?_;refine GF.evL (i:=1) rfl krStd0 (Ev.d8 rfl rfl) ag ?_;refine GF.evL (i:=2) rfl krStd0 (Ev.indexAddr rfl rfl ab ab ab) ag ?_;refine GF.evL (i:=3) rfl krStd0 (Ev.e7 rfl ab) ag ?_;refine GF.evP (i:=4) rfl krStd0 (Ev.fieldAddr rfl) ag ?_;refine GF.evL (i:=5) rfl krStd0 (Ev.d8 rfl rfl) ag ?_;refine GF.evL (i:=6) rfl krStd0 (Ev.indexAddr rfl rfl ab ab ab) ag ?_;refine GF.evL (i:=7) rfl krStd0 (Ev.e7 rfl ab) ag ?_;refine GF.d7 8 9 krStd0 ?_ ?_
  ·refine GE.ef rfl Ef.alloc ag ?_;rintro _ _⟨b3,rfl,rfl⟩;refine⟨(by intro pe hp;simp only[bj,aU,or_false] at hp;rcases hp with rfl|rfl|rfl|rfl|rfl|rfl<;>first|exact Ev.d8 rfl rfl|exact Ev.indexAddr rfl rfl ab ab ab|exact Ev.e7 rfl ab),?_⟩;refine GF.plan [.ef 9,.ef 10,.ef 11] krStd0 rfl ?_;refine Jq ?_;intros;exact⟨(b3,_),trivial,av,by exact ae⟩
  ·refine GE.ef rfl Ef.alloc ag ?_;rintro _ _⟨b4,rfl,rfl⟩;refine⟨(by intro pe hp;simp only[bj,aU,or_false] at hp;rcases hp with rfl|rfl|rfl|rfl|rfl|rfl<;>first|exact Ev.d8 rfl rfl|exact Ev.indexAddr rfl rfl ab ab ab|exact Ev.e7 rfl ab),?_⟩;refine GF.plan [.ef 8,.ef 10,.ef 11] krStd0 rfl ?_;refine Jq ?_;intros;exact⟨(_,b4),trivial,av,by exact ae⟩
 rintro⟨b3,b4⟩ _;generalize s.moves[(0:Int).toNat]! = m0 at *;generalize s.moves[(1:Int).toNat]! = m1 at *;simp only[aM];by_cases d1:m0.m.to=0
 case neg =>
  refine Jq ?_;intros;exact KX.d7 al ae ⟨by rw[aG (fun h=>d1 h.1)];rfl,rfl⟩
 by_cases d2:m1.m.frm=0
 case neg =>
  refine Jq ?_;intros;exact KX.d7 al ae ⟨by rw[aG (fun h=>d2 h.2.1)];rfl,rfl⟩
 by_cases d3:m1.m.to=m0.m.frm
 case neg =>
  refine Jq ?_;intros;exact KX.d7 al ae ⟨by rw[aG (fun h=>d3 h.2.2.1)];rfl,rfl⟩
 by_cases d4:m0.m.n % s.times=0
 case neg =>
  refine Jq ?_;intros;exact KX.d7 al ae ⟨by rw[aG (fun h=>d4 h.2.2.2.1)];rfl,rfl⟩
 refine Jq ?_;intros;refine KX.d7 al ae ⟨?_,rfl⟩;by_cases d5:m1.m.n % s.times=0
 ·rw[aS d5,aS ⟨d1,d2,d3,d4,d5⟩];rfl
 ·rw[aG d5,aG (fun h=>d5 h.2.2.2.2)];rfl
def kH(k:Nat)(fp tp:Int→Bool)(st:Bool)(m:MvM):Prop :=
 (0≤m.item∧m.item<k)∧(1≤m.n∧m.n≤1099511627776)∧accP m.frm∧accP m.to∧m.frm≠m.to∧fp m.frm=true∧tp m.to=true∧(if st=true then fY m.parts m.n else m.parts.length=0)
noncomputable instance (a b c d e):Decidable (kH a b c d e):=Classical.propDecidable _
abbrev Am:=ay8 [.ev 17,.ev 18,.ev 19,.ev 20,.ev 21,.ev 22,.ev 23,.ev 24,.ev 25,.ev 26,.ef 27,.ev 28,.ev 29,.ev 30,.ev 31,.ev 32,.ef 33,.ev 34,.ev 35,.ev 36,.ev 37,.ev 38,.ev 39,.ev 40,.ev 41,.ev 42,.ev 43,.ev 44,.ev 45,.ev 46,.ev 47,.ef 48,.ev 49,.ev 50,.ev 51,.ev 52,.ev 53,.ev 54,.ev 55,.ef 56,.ev 57,.ev 58]
abbrev Al:List Stp:=[.ev 0,.ev 1,.ef 2,.ev 3,.ev 4,.ev 5,.ev 7,.ev 8,.ef 6,.ev 9,.ev 10,.ev 11,.ev 12,.ev 13,.ev 16,.ev 17,.ef 14,.ef 15,.ev 18,.ev 19,.ev 20]
def ae4{φ ψ:Prop}(k:ψ)(h:Hid ψ→φ:=by intro k;(repeat (first|refine aa ?_|intro zzz|refine G.dr 93 1 Am ?_|refine G.dr 93 5 Al ?_));(repeat revert zzz);exact Hid.out k):φ:=h ⟨k⟩
def DX{L R:LH}{b:Nat}{sh:Int}{x:LedX}[hp:PickObj L b tLed (bJ sh x) R](ff tf wf:FuncId)(fp tp:Int→Bool)(st:Bool)(hf:Asks ff fp)(ht:Asks tf tp)(m:MvV)[hr:Rds L m.pad Lot aj 3 m.m.parts](hm:m.m.parts.length≤9223372036854775807)(hl:x.cat.items.length≤64) :
  Tri ai 214 #[ax b,aN (aM m),.agg #[.func (.func ff) #[] #[],.func (.func tf) #[] #[],.bool st,.func (.func wf) #[] #[]]] L (fun v L'=>v=.bool (dB (kH x.cat.items.length fp tp st m.m))∧L' = L):=by
 obtain⟨⟨frm,to,item,n,parts⟩,pad,pcap⟩:=m;dsimp only at hr hm;have a0:∀{p:Prop},¬p→(kH x.cat.items.length fp tp st ⟨frm,to,item,n,parts⟩→p)→dB (kH x.cat.items.length fp tp st ⟨frm,to,item,n,parts⟩)=false:=fun h q=>aG (fun r=>h (q r));refine Tri.bd (args:=[ax b,aN (aM ⟨⟨frm,to,item,n,parts⟩,pad,pcap⟩),.agg #[.func (.func ff) #[] #[],.func (.func tf) #[] #[],.bool st,.func (.func wf) #[] #[]]]) ?_;by_cases h1:0≤item
 case neg =>
  refine ae4 ?_;intros;exact KX.d7 al ae ⟨by rw[a0 h1 (fun h=>h.1.1)];rfl,rfl⟩
 by_cases h2:item<x.cat.items.length
 case neg =>
  refine ae4 ?_;intros;exact KX.d7 al ae ⟨by rw[a0 h2 (fun h=>h.1.2)];rfl,rfl⟩
 by_cases h3:1≤n
 case neg =>
  refine ae4 ?_;intros;exact KX.d7 al ae ⟨by rw[a0 h3 (fun h=>h.2.1.1)];rfl,rfl⟩
 by_cases h4:n≤1099511627776
 case neg =>
  refine ae4 ?_;intros;exact KX.d7 al ae ⟨by rw[a0 h4 (fun h=>h.2.1.2)];rfl,rfl⟩
 refine ae4 ?_;intros;refine GPW.cr (kl frm) ?_;by_cases h5:accP frm
 case neg =>
  rw[aG h5];refine ae4 ?_;intros;exact KX.d7 al ae ⟨by rw[a0 h5 (fun h=>h.2.2.1)];rfl,rfl⟩
 rw[aS h5];refine ae4 ?_;intros;refine GPW.cr (kl to) ?_;by_cases h6:accP to
 case neg =>
  rw[aG h6];refine ae4 ?_;intros;exact KX.d7 al ae ⟨by rw[a0 h6 (fun h=>h.2.2.2.1)];rfl,rfl⟩
 rw[aS h6];by_cases h7:frm=to
 case pos =>
  refine ae4 ?_;intros;exact KX.d7 al ae ⟨by rw[a0 (fun q:frm≠to=>q h7) (fun h=>h.2.2.2.2.1)];rfl,rfl⟩
 refine ae4 ?_;intros;refine GPW.ef (Ef.d8 rfl rfl (hf frm _)) ag ?_;rintro _ _⟨rfl,rfl⟩;cases h8:fp frm with
 | false =>
  refine ae4 ?_;intros;exact KX.d7 al ae ⟨by rw[a0 (show ¬fp frm=true by rw[h8];decide) (fun h=>h.2.2.2.2.2.1)];rfl,rfl⟩
 | true =>
 refine ae4 ?_;intros;refine GPW.ef (Ef.d8 rfl rfl (ht to _)) ag ?_;rintro _ _⟨rfl,rfl⟩;cases h9:tp to with
 | false =>
  refine ae4 ?_;intros;exact KX.d7 al ae ⟨by rw[a0 (show ¬tp to=true by rw[h9];decide) (fun h=>h.2.2.2.2.2.2.1)];rfl,rfl⟩
 | true =>
 cases st with
 | false =>
  have e:kH x.cat.items.length fp tp false ⟨frm,to,item,n,parts⟩↔parts.length=0:=⟨fun h=>h.2.2.2.2.2.2.2,fun h=>⟨⟨h1,h2⟩,⟨h3,h4⟩,h5,h6,h7,h8,h9,h⟩⟩;refine ae4 ?_;intros;refine KX.d7 al ae ⟨?_,rfl⟩;by_cases a1:parts.length=0
  ·rw[aS (ab:((parts.length:Nat):Int)=0),aS (e.2 a1)];rfl
  ·rw[aG (ab:¬((parts.length:Nat):Int)=0),aG (fun h=>a1 (e.1 h))];rfl
 | true =>
 have e:kH x.cat.items.length fp tp true ⟨frm,to,item,n,parts⟩↔fY parts n:=⟨fun h=>h.2.2.2.2.2.2.2,fun h=>⟨⟨h1,h2⟩,⟨h3,h4⟩,h5,h6,h7,h8,h9,h⟩⟩;refine ae4 ?_;intros;refine GPW.cr (xO pad parts.length pcap parts rfl hm) ?_;by_cases c1:dM parts
 case neg =>
  rw[aG c1];refine ae4 ?_;intros;exact KX.d7 al ae ⟨by rw[aG (fun h=>c1 (e.1 h).1)];rfl,rfl⟩
 rw[aS c1];refine ae4 ?_;intros;refine GPW.cr (lQ pad parts.length pcap parts rfl c1.2 c1.1) ?_;by_cases c2:lsum parts=n
 case neg =>
  refine ae4 ?_;intros;exact KX.d7 al ae ⟨by rw[aG (fun h=>c2 (e.1 h).2.2)];rfl,rfl⟩
 refine ae4 ?_;intros;refine GPW.ca (ka pad parts.length pcap parts rfl (by have:=c1.2;omega) c1.1) ?_;rintro _ _⟨a3,zc,ys,rfl,a2,rfl⟩;obtain⟨s1,s2,s3,_⟩:=lA a2 c1.1;refine ae4 ?_;intros;refine GPW.cr (nI a3 (zset ys).length zc (zset ys) rfl (by have:=c1.2;omega) s1.ok) ?_;refine ae4 ?_;intros;refine KX.d7 al ae ⟨?_,rfl⟩
 have e2:kH x.cat.items.length fp tp true ⟨frm,to,item,n,parts⟩↔lsum (zset ys)=n:=by
  rw[e];constructor
  ·rintro⟨_,q,_⟩;rw[s3.2 q,c2]
  ·intro q;exact⟨c1,s3.1 (q.trans c2.symm),c2⟩
 rw[gh e2];rfl
def kF(k:Int):Int→Bool:=if k=0∨k=5 then(fun n=>dB (n=0)) else if k=4∨k=10∨k=9 then(fun _=>true) else(fun n=>dB (¬n=0))
def kT(k:Int):Int→Bool:=if k=1∨k=6 then(fun n=>dB (n=0)) else if k=4∨k=10∨k=7 then(fun _=>true) else(fun n=>dB (¬n=0))
def kS(k:Int):Bool:=if k=5∨k=7∨k=9 then true else false
def kW(k:Int):FuncId:=if k=4 then 259 else if k=10 then 260 else 257
abbrev Jg(ff tf wf:FuncId)(st:Bool):Value:=.agg #[.func (.func ff) #[] #[],.func (.func tf) #[] #[],.bool st,.func (.func wf) #[] #[]]
def Fw{n:Nat}{k:Int}{m:MvM}(hk:0≤k∧k≤10):mvAP n k m↔kH n (kF k) (kT k) (kS k) m:=by
 have eF:kF k m.frm=true↔(if k=0∨k=5 then m.frm=0 else if k=4∨k=10∨k=9 then True else ¬m.frm=0):=by
  unfold kF;by_cases a:k=0∨k=5
  ·rw[if_pos a,if_pos a,fE,decide_eq_true_iff]
  ·rw[if_neg a,if_neg a];by_cases b:k=4∨k=10∨k=9
   ·rw[if_pos b,if_pos b];simp
   ·rw[if_neg b,if_neg b,fE,decide_eq_true_iff]
 have eT:kT k m.to=true↔(if k=1∨k=6 then m.to=0 else if k=4∨k=10∨k=7 then True else ¬m.to=0):=by
  unfold kT;by_cases a:k=1∨k=6
  ·rw[if_pos a,if_pos a,fE,decide_eq_true_iff]
  ·rw[if_neg a,if_neg a];by_cases b:k=4∨k=10∨k=7
   ·rw[if_pos b,if_pos b];simp
   ·rw[if_neg b,if_neg b,fE,decide_eq_true_iff]
 have eS:(if kS k=true then fY m.parts m.n else m.parts.length=0)↔(if k=5∨k=7∨k=9 then fY m.parts m.n else m.parts.length=0):=by
  unfold kS;by_cases a:k=5∨k=7∨k=9
  ·rw[if_pos a,if_pos rfl,if_pos a]
  ·rw[if_neg a,if_neg ag,if_neg a]
 unfold mvAP kH fO;rw[eF,eT,eS];generalize fY m.parts m.n=PA;generalize m.parts.length=pl;unfold accP;rcases (by omega:k=0∨k=1∨k=2∨k=3∨k=4∨k=5∨k=6∨k=7∨k=8∨k=9∨k=10) with rfl|rfl|rfl|rfl|rfl|rfl|rfl|rfl|rfl|rfl|rfl<;>simp<;>intros<;>omega
noncomputable instance decTail (a:List RuM) (b:StM):Decidable (jl a b):=Classical.propDecidable _
def DW{L:LH}(k:Int)(hk:0≤k∧k≤10):Tri ai 211 #[ac k] L (fun v L'=>∃ff tf,v=.tuple #[Jg ff tf (kW k) (kS k),.bool true]∧(Asks ff (kF k)∧Asks tf (kT k))∧L' = L):=by
 rcases (by omega:k=0∨k=1∨k=2∨k=3∨k=4∨k=5∨k=6∨k=7∨k=8∨k=9∨k=10) with rfl|rfl|rfl|rfl|rfl|rfl|rfl|rfl|rfl|rfl|rfl
 ·refine Tri.bd (args:=[ac 0]) ?_;refine Jq ?_;intros;exact KX.d7 (by exact ResOk.cell rfl aK (ResOk.tmp rfl (ResOk.nil))) ae ⟨_,_,rfl,⟨kg,fg⟩,rfl⟩
 ·refine Tri.bd (args:=[ac 1]) ?_;refine Jq ?_;intros;exact KX.d7 (by exact ResOk.cell rfl aK (ResOk.tmp rfl (ResOk.nil))) ae ⟨_,_,rfl,⟨fg,kg⟩,rfl⟩
 ·refine Tri.bd (args:=[ac 2]) ?_;refine Jq ?_;intros;exact KX.d7 (by exact ResOk.cell rfl aK (ResOk.tmp rfl (ResOk.nil))) ae ⟨_,_,rfl,⟨fg,fg⟩,rfl⟩
 ·refine Tri.bd (args:=[ac 3]) ?_;refine Jq ?_;intros;exact KX.d7 (by exact ResOk.cell rfl aK (ResOk.tmp rfl (ResOk.nil))) ae ⟨_,_,rfl,⟨fg,fg⟩,rfl⟩
 ·refine Tri.bd (args:=[ac 4]) ?_;refine Jq ?_;intros;exact KX.d7 (by exact ResOk.cell rfl aK (ResOk.tmp rfl (ResOk.nil))) ae ⟨_,_,rfl,⟨li,li⟩,rfl⟩
 ·refine Tri.bd (args:=[ac 5]) ?_;refine Jq ?_;intros;exact KX.d7 (by exact ResOk.cell rfl aK (ResOk.tmp rfl (ResOk.nil))) ae ⟨_,_,rfl,⟨kg,fg⟩,rfl⟩
 ·refine Tri.bd (args:=[ac 6]) ?_;refine Jq ?_;intros;exact KX.d7 (by exact ResOk.cell rfl aK (ResOk.tmp rfl (ResOk.nil))) ae ⟨_,_,rfl,⟨fg,kg⟩,rfl⟩
 ·refine Tri.bd (args:=[ac 7]) ?_;refine Jq ?_;intros;exact KX.d7 (by exact ResOk.cell rfl aK (ResOk.tmp rfl (ResOk.nil))) ae ⟨_,_,rfl,⟨fg,li⟩,rfl⟩
 ·refine Tri.bd (args:=[ac 8]) ?_;refine Jq ?_;intros;exact KX.d7 (by exact ResOk.cell rfl aK (ResOk.tmp rfl (ResOk.nil))) ae ⟨_,_,rfl,⟨fg,fg⟩,rfl⟩
 ·refine Tri.bd (args:=[ac 9]) ?_;refine Jq ?_;intros;exact KX.d7 (by exact ResOk.cell rfl aK (ResOk.tmp rfl (ResOk.nil))) ae ⟨_,_,rfl,⟨li,fg⟩,rfl⟩
 ·refine Tri.bd (args:=[ac 10]) ?_;refine Jq ?_;intros;exact KX.d7 (by exact ResOk.cell rfl aK (ResOk.tmp rfl (ResOk.nil))) ae ⟨_,_,rfl,⟨li,li⟩,rfl⟩
def DV{L:LH}(k:Int)(hk:¬(0≤k∧k≤10)):Tri ai 211 #[ac k] L (fun v L'=>v=.tuple #[.agg #[.nilFunc,.nilFunc,.bool false,.nilFunc],.bool false]∧L' = L):=by
 by_cases h:k<0
 ·refine Tri.bd ?_;refine Jq ?_;intros;exact KX.d7 (by exact ResOk.cell rfl aK (ResOk.tmp rfl (ResOk.nil))) ae ⟨rfl,rfl⟩
 ·have h2:10<k:=ab;refine Tri.bd ?_;refine Jq ?_;intros;exact KX.d7 (by exact ResOk.cell rfl aK (ResOk.tmp rfl (ResOk.nil))) ae ⟨rfl,rfl⟩
abbrev Ak:=ay3 [.ev 4,.ef 5,.ev 6,.ev 7,.ev 8,.ev 9,.ev 10,.ev 11,.ev 12,.ev 13,.ev 14,.ev 15,.ev 16,.ev 17,.ev 18,.ev 19,.ev 20,.ev 21,.ef 22,.ev 23,.ev 24,.ev 25,.ev 26,.ev 27,.ev 28,.ev 29,.ev 30,.ev 31,.ev 32,.ev 33,.ev 34,.ev 35,.ev 36]
def ag5{φ ψ:Prop}(k:ψ)(h:Hid ψ→φ:=by intro k;(repeat (first|refine aa ?_|intro zzz|refine G.dr 70 2 Ak ?_));(repeat revert zzz);exact Hid.out k):φ:=h ⟨k⟩
def CA{L R:LH}{b:Nat}{sh:Int}{x:LedX}[hp:PickObj L b tLed (bJ sh x) R][hr:Rds L x.sad StV aT 7 x.steps](s:StV)[c1:Rds L s.mad MvV aM 5 s.moves](b7:∀m∈s.moves,m.m.parts.length≤9223372036854775807)(hc:x.cat.m.Ok)(hB:x.cat.B)(b9:x.steps.length≤65536)(b1:s.moves.length≤1000000)(a6:s.moves.length≤s.mcap)(hI:I64 s.rule)(h0:0≤xnow x) :
  Tri ai 123 #[ax b,aN (aT s)] (catP x.cat::stP s::L) (fun v L'=>v=.bool (dB (fN x.cat.m (xnow x) s.m))∧L' = catP x.cat::stP s::L):=by
 have b2:=hB.items;have c0:s.m.moves.length=s.moves.length:=by simp[StV.m]
 have hA:=possG_A (c:=x.cat.m) (now:=xnow x) (s:=s.m);have a1:∀{p:Prop},¬p→(fN x.cat.m (xnow x) s.m→p)→dB (fN x.cat.m (xnow x) s.m)=false:=fun h q=>aG (fun r=>h (q r));refine Tri.bd ?_;refine ag5 ?_;intros;rename_i b3;by_cases hk:0≤s.kind∧s.kind≤10
 case neg =>
  refine GO.cr (DV s.kind hk) ?_;refine ag5 ?_;intros;exact KX.d7 al ae ⟨by rw[a1 hk (fun h=>(hA.1 h).1)];rfl,rfl⟩
 refine GO.ca (DW s.kind hk) ?_;rintro _ _⟨ff,tf,rfl,⟨b6,b0⟩,rfl⟩;refine ag5 ?_;intros;rename_i b5;refine GPW.cr (kl s.actor) ?_;by_cases h1:accP s.actor
 case neg =>
  rw[aG h1];refine ag5 ?_;intros;exact KX.d7 al ae ⟨by rw[a1 h1 (fun h=>(hA.1 h).2.1)];rfl,rfl⟩
 rw[aS h1];by_cases h2:0≤s.tick
 case neg =>
  refine ag5 ?_;intros;exact KX.d7 al ae ⟨by rw[a1 h2 (fun h=>Int.le_trans h0 (hA.1 h).2.2.1.1)];rfl,rfl⟩
 by_cases h3:s.tick≤1099511627776
 case neg =>
  refine ag5 ?_;intros;exact KX.d7 al ae ⟨by rw[a1 h3 (fun h=>(hA.1 h).2.2.1.2)];rfl,rfl⟩
 refine ag5 ?_;intros;refine GPW.cr (vj (b:=b) (sh:=sh) (x:=x) ab) ?_;rw[show(x.steps.getLast?.map (·.tick)).getD 0=xnow x from rfl];by_cases h4:xnow x≤s.tick
 case neg =>
  refine ag5 ?_;intros;exact KX.d7 al ae ⟨by rw[a1 h4 (fun h=>(hA.1 h).2.2.1.1)];rfl,rfl⟩
 by_cases h5:1≤s.moves.length
 case neg =>
  refine ag5 ?_;intros;exact KX.d7 al ae ⟨by rw[a1 h5 (fun h=>by have:=(hA.1 h).2.2.2.1.1;omega)];rfl,rfl⟩
 by_cases h6:s.moves.length≤64
 case neg =>
  refine ag5 ?_;intros;exact KX.d7 al ae ⟨by rw[a1 h6 (fun h=>by have:=(hA.1 h).2.2.2.1.2;omega)];rfl,rfl⟩
 refine ag5 ?_;intros;refine G.loop (α:=Nat) (fun i=>i≤s.moves.length∧∀j:Nat,j<i→kH x.cat.items.length (kF s.kind) (kT s.kind) (kS s.kind) s.moves[j]!.m) (fun i=>[(0,ax b),(3,ax b3),(4,.bool false),(5,ax b5),(53,ah s.mad s.moves.length s.mcap),(54,ac (s.moves.length:Int)),(55,ac (i:Int))]) (fun _=>obj b5 Cp [.func (.func ff) #[] #[],.func (.func tf) #[] #[],.bool (kS s.kind),.func (.func (kW s.kind)) #[] #[]]::obj b3 be (aT s)::catP x.cat::stP s::L) (fun i=>s.moves.length - i) 0 ⟨aw _,fun j h=>absurd h ab⟩ av (Ent.refl _) ?_;rintro i ⟨hi,a8⟩;by_cases a9:i<s.moves.length
 case neg =>
  have b4:i=s.moves.length:=ab;subst b4
  have a4:∀m∈s.moves,kH x.cat.items.length (kF s.kind) (kT s.kind) (kS s.kind) m.m:=by
   intro m hm;obtain⟨j,hj,rfl⟩:=List.mem_iff_getElem.1 hm;have:=a8 j hj
   rw[getElem!_of hj] at this;exact this
  have a5:∀m∈s.m.moves,mvAP x.cat.m.items.length s.m.kind m:=by
   intro m hm;obtain⟨v,hv,rfl⟩:=List.mem_map.1 (show m∈s.moves.map MvV.m from hm);exact(Fw hk).2 (a4 v hv)
  have a7:dB (fN x.cat.m (xnow x) s.m)=dB (jl x.cat.m.rules s.m):=by
   by_cases hw:jl x.cat.m.rules s.m
   ·rw[aS hw,aS (hA.2 ⟨hk,h1,⟨h4,h3⟩,⟨ab,ab⟩,a5,hw⟩)]
   ·rw[aG hw,aG (fun h=>hw (hA.1 h).2.2.2.2.2)]
  rw[a7];refine ag5 ?_;intros;by_cases a3:s.kind=4
  ·have e1:kW s.kind=259:=by unfold kW;rw[if_pos a3]
   have e2:dB (jl x.cat.m.rules s.m)=dB (fP x.cat.m.rules s.rule s.times (s.moves.map MvV.m)):=by
    have e:jl x.cat.m.rules s.m=fP x.cat.m.rules s.rule s.times (s.moves.map MvV.m):=by unfold jl;exact if_pos a3
    by_cases hw:fP x.cat.m.rules s.rule s.times (s.moves.map MvV.m)
    ·rw[aS hw,aS (e▸hw)]
    ·rw[aG hw,aG (e▸hw)]
   rw[e1,e2];refine GO.ent (Ent.at (A:=catP x.cat) (Ent.refl _)) ?_;refine GO.ef (Ef.d8 rfl rfl (qp (b:=b) (sh:=sh) (x:=x) s hc hB h6 a6 hI)) ag ?_;rintro _ _⟨rfl,rfl⟩;refine ag5 ?_;intros;exact KX.en ⟨rfl,rfl⟩
  by_cases a0:s.kind=10
  ·have e1:kW s.kind=260:=by unfold kW;rw[if_neg a3,if_pos a0]
   have e2:dB (jl x.cat.m.rules s.m)=dB (gO s.m):=by
    have e:jl x.cat.m.rules s.m=gO s.m:=by unfold jl;exact(if_neg a3).trans (if_pos a0)
    by_cases hw:gO s.m
    ·rw[aS hw,aS (e▸hw)]
    ·rw[aG hw,aG (e▸hw)]
   rw[e1,e2];refine GO.ef (Ef.d8 rfl rfl (xS b s (fun m hm=>by have:=(a4 m hm).2.1.1;omega) b1)) ag ?_;rintro _ _⟨rfl,rfl⟩;refine ag5 ?_;intros;exact KX.en ⟨rfl,rfl⟩
  ·have e1:kW s.kind=257:=by unfold kW;rw[if_neg a3,if_neg a0]
   have e2:dB (jl x.cat.m.rules s.m)=dB (jD s.rule s.times):=by
    have e:jl x.cat.m.rules s.m=jD s.rule s.times:=by unfold jl;exact(if_neg a3).trans (if_neg a0)
    by_cases hw:jD s.rule s.times
    ·rw[aS hw,aS (e▸hw)]
    ·rw[aG hw,aG (e▸hw)]
   rw[e1,e2];refine GO.ef (Ef.d8 rfl rfl (qn b s)) ag ?_;rintro _ _⟨rfl,rfl⟩;refine ag5 ?_;intros;exact KX.en ⟨rfl,rfl⟩
 have b8:(i:Int).toNat=i:=ab;have a2:=aI a9;refine G.ent (L':=isl aj 3 s.moves[i]!.pad s.moves[i]!.m.parts::obj b5 Cp [.func (.func ff) #[] #[],.func (.func tf) #[] #[],.bool (kS s.kind),.func (.func (kW s.kind)) #[] #[]]::obj b3 be (aT s)::catP x.cat::stP s::L) ((Ent.at (A:=stP s) (Ent.e7 (f:=mvP) a2)).trans ae) ?_;refine ag5 ?_;intros;rw[b8];refine GO.cr (DX (b:=b) (sh:=sh) (x:=x) ff tf (kW s.kind) (kF s.kind) (kT s.kind) (kS s.kind) b6 b0 s.moves[i]! (b7 _ a2) b2) ?_;by_cases h7:kH x.cat.items.length (kF s.kind) (kT s.kind) (kS s.kind) s.moves[i]!.m
 case neg =>
  rw[aG h7];refine ag5 ?_;intros;refine KX.d7 al ae ⟨?_,rfl⟩;rw[a1 h7 (fun h=>(Fw hk).1 ((hA.1 h).2.2.2.2.1 s.moves[i]!.m (alStd0List_mem_map_of_mem a2)))];rfl
 rw[aS h7];refine ag5 ?_;intros;refine⟨i+1,⟨ab,?_⟩,ab,?_,by exact ae⟩
 ·intro j hj;rcases cc j i with h|h
  ·exact a8 j h
  ·obtain rfl:j=i:=ab;exact h7
 ·rw[aV i];exact av
abbrev An:=ay6 [.ev 10,.ev 11]
abbrev xv:=ay7 [.ef 13,.ev 14]
def cd{φ ψ:Prop}(k:ψ)(h:Hid ψ→φ:=by intro k;(with_reducible apply G.d7);first|refine G.dr 116 4 An (Hid.out k)|refine G.dr 116 10 xv (Hid.out k)):φ:=h ⟨k⟩
def ai3{φ ψ:Prop}(k:ψ)(h:Hid ψ→φ:=by intro k;(repeat (first|refine aa ?_|intro zzz|refine G.dr 116 4 An ?_|refine G.dr 116 10 xv ?_));(repeat revert zzz);exact Hid.out k):φ:=h ⟨k⟩
def xb{L:LH}(b bc:Nat)(sh:Int)(x:LedX)(s:StV)(z:ChG)(l:LL)(hm:SetS (uOf z.ret x.ret) l)(hl:l.length≤2000)(f2:∀y∈l,LotOk y)(m:MvV)[hr:Rds L m.pad Lot aj 3 m.m.parts](hp:∀p∈m.m.parts,LotOk p)(hb:∀p∈m.m.parts,p.1≤9223372036854775807)(f4:m.m.parts.length≤2000)(e4:0≤sh∧sh<12)(g2:x.flows.length≤9000000)(f0:∀f∈x.flows,f.m.n≤9223372036854775807) :
  Tri ai 266 #[ax bc,aN (aM m)] (chgL b bc s z (ledL b sh x L)) (fun v L'=>∃u,v=ac (retG sh (x.flows.map FlV.m) m.m.item m.m.parts l)∧(retG sh (x.flows.map FlV.m) m.m.item m.m.parts l=0→SetS (uOf u x.ret) (l++m.m.parts))∧L' = chgL b bc s { z with ret:=u } (ledL b sh x L)):=by
 obtain⟨⟨frm,to,item,mn,parts⟩,pad,pcap⟩:=m;dsimp only at hr hp hb f4 ⊢;generalize hfe:x.flows.map FlV.m=fl;have e2:fl.length=x.flows.length:=by rw[←hfe,aA]
 refine Tri.bd (args:=[ax bc,aN (aM ⟨⟨frm,to,item,mn,parts⟩,pad,pcap⟩)]) ?_;simp only[aM,chgL,cn,ledL,bJ];refine ai3 ?_;intros;rename_i b3;refine G.loop (α:=Nat×List (Int×Stk)) (fun g=>g.1≤parts.length∧SetS (uOf g.2 x.ret) (l++parts.take g.1)∧retG sh fl item parts l=retG sh fl item (parts.drop g.1) (l++parts.take g.1)) (fun g=>[(0,ax bc),(3,ax b3),(13,ah pad parts.length pcap),(14,ac parts.length),(15,ac (g.1:Int))]) (fun g=>chgL b bc s { z with ret:=g.2 } (ledL b sh x (obj b3 tMv [ac frm,ac to,ac item,ac mn,ah pad parts.length pcap]::L))) (fun g=>parts.length - g.1) (0,z.ret) ⟨aw _,by rw[bH,aQ];exact hm,by rw[bH,aQ];rfl⟩ av (by(try simp only[chgL,cn,ledL,bJ]);exact ae) ?_;rintro⟨i,mp⟩ ⟨hi,a4,hg⟩;dsimp only at hi a4 hg ⊢;by_cases b2:i<parts.length
 case neg =>
  rw[bC ab,aF ab] at hg;rw[aF ab] at a4;have f6:retG sh fl item parts l=0:=hg;rw[f6];(try simp only[chgL,cn,ledL,bJ]);refine ai3 ?_;intros;refine KX.d7 al ?_ ⟨mp,rfl,fun _=>a4,rfl⟩;(try simp only[chgL,cn,ledL,bJ]);exact ae
 have f9:(i:Int).toNat=i:=aC i;have e5 : (i:Int).toNat<parts.length:=ab;have e1:parts[(i:Int).toNat]! = parts[i]!:=by rw[f9]
 have b5:l++parts.take (i+1)=l++parts.take i++[parts[(i:Int).toNat]!]:=by rw[e1,aD b2,getElem!_of b2,aH]
 have d0:(l++parts.take i).length≤4000:=by rw[ay,bG];omega
 have b4:∀y∈l++parts.take i,LotOk y:=fun y hy=>by
  rcases List.mem_append.1 hy with q|q
  ·exact f2 y q
  ·exact hp y (dv q)
 have c8:=hb _ (aI b2);have a5:=hp _ (aI b2);rw[←e1] at c8 a5;rw[eZ b2,mf,←e1] at hg;rw[←b5] at hg;have f1:retG sh fl item parts l≠0→(retG sh fl item parts l=0→SetS (uOf mp x.ret) (l++parts)):=fun h q=>absurd q h;obtain⟨p,c6⟩:∃p,parts[(i:Int).toNat]! = p:=⟨_,rfl⟩;rw[c6] at c8 a5 hg b5;clear e1;have c5:=a5;unfold LotOk at c5;have a7:=wO a4 b4 a5;(try simp only[chgL,cn,ledL,bJ]);refine ai3 ?_;intros;rw[c6];simp only[aj];refine ai3 ?_;intros;obtain⟨k,hk⟩:∃k,k=p.1 - sh*4294967296:=⟨_,rfl⟩;have a2:gotB sh fl item p↔(0≤k∧k<fl.length)∧fl[k.toNat]!.to=0∧fl[k.toNat]!.kind≠6∧fl[k.toNat]!.item=item∧p.2.1+p.2.2≤fl[k.toNat]!.n:=by rw[hk];rfl
 have a6:¬gotB sh fl item p→retG sh fl item parts l=10:=fun q=>by rw[hg,if_neg (fun r=>q r.1)]
 obtain⟨f5,e6⟩:=e4;rw[←hk];by_cases d1:0≤k
 case neg =>
  rw[a6 (fun q=>d1 (a2.1 q).1.1)];refine ai3 ?_;intros;exact KX.d7 al (by(try simp only[chgL,cn,ledL,bJ]);exact ae) ⟨mp,rfl,fun h=>absurd h ag,rfl⟩
 by_cases d2:k<x.flows.length
 case neg =>
  rw[a6 (fun q=>d2 (by have:=(a2.1 q).1.2;omega))];refine ai3 ?_;intros;exact KX.d7 al (by(try simp only[chgL,cn,ledL,bJ]);exact ae) ⟨mp,rfl,fun h=>absurd h ag,rfl⟩
 have c9:k.toNat<x.flows.length:=ab;obtain⟨f,hf⟩:∃f,x.flows[k.toNat]! = f:=⟨_,rfl⟩;have e0:fl[k.toNat]! = f.m:=by rw[←hfe,←hf];exact el FlV.m c9
 have b9:=f0 _ (aI c9);rw[hf] at b9;rw[e0] at a2;refine ai3 ?_;intros;rw[hf];simp only[bL];by_cases d3:f.m.to=0
 case neg =>
  rw[a6 (fun q=>d3 (a2.1 q).2.1)];refine ai3 ?_;intros;exact KX.d7 al (by(try simp only[chgL,cn,ledL,bJ]);exact ae) ⟨mp,rfl,fun h=>absurd h ag,rfl⟩
 by_cases d4:f.m.kind=6
 case pos =>
  rw[a6 (fun q=>(a2.1 q).2.2.1 d4)];refine ai3 ?_;intros;exact KX.d7 al (by(try simp only[chgL,cn,ledL,bJ]);exact ae) ⟨mp,rfl,fun h=>absurd h ag,rfl⟩
 by_cases d5:f.m.item=item
 case neg =>
  rw[a6 (fun q=>d5 (a2.1 q).2.2.2.1)];refine ai3 ?_;intros;exact KX.d7 al (by(try simp only[chgL,cn,ledL,bJ]);exact ae) ⟨mp,rfl,fun h=>absurd h ag,rfl⟩
 by_cases d6:p.2.1+p.2.2≤f.m.n
 case neg =>
  rw[a6 (fun q=>d6 (a2.1 q).2.2.2.2)];refine ai3 ?_;intros;exact KX.d7 al (by(try simp only[chgL,cn,ledL,bJ]);exact ae) ⟨mp,rfl,fun h=>absurd h ag,rfl⟩
 have cg:gotB sh fl item p:=a2.2 ⟨⟨d1,ab⟩,d3,d4,d5,d6⟩;clear a6 a2;refine ai3 ?_;intros;refine GPW.cr (sR (z:=mp) (x:=x.ret) p.1) ?_;have b7:=a4.ok p.1;have b0:=a4.cap p.1;have f3:=a4.len p.1;have a9:=fun (h:¬ ∃y∈(uOf mp x.ret p.1).lots,¬apart y p) (ys:LL) (hy:ez hdC ((uOf mp x.ret p.1).lots++[p]) ys) (s' : Stk) (h1:s'.lots=zset ys) (h2:(zset ys).length≤s'.cap)=>wP (g':=uOf (gins mp p.1 s') x.ret) a4 b4 a5 h hy (by rw[kN,if_pos rfl,h1]) (by rw[kN,if_pos rfl];exact h2) (fun f e=>by rw[kN,if_neg e]);have b1:=fun M:LH=>qO (z:=mp) (x:=x.ret) p.1 (L:=M);generalize uOf mp x.ret p.1=sk at *;obtain⟨sad,scap,a0⟩:=sk;dsimp only at b7 b0 f3 a9 a7
 have c7:∀y∈a0++[p],LotOk y:=fun y hy=>by
  rcases List.mem_append.1 hy with q|q
  ·exact b7.ok y q
  ·rw[List.mem_singleton.1 q];exact a5
 simp only[Stk.v];refine ai3 ?_;intros;rename_i b6 b8 bl;refine GO.ent (L':=[isl aj 3 (some ⟨bl,0,none⟩) [p],isl aj 3 sad a0]++(isl aj 3 sad a0::chgL b bc s { z with ret:=mp } (ledL b sh x (obj b6 tLot (aj p)::obj b3 tMv [ac frm,ac to,ac item,ac mn,ah pad parts.length pcap]::L)))) ?_ ?_
 ·refine(Ent.at (A:=obj bl tLot [ac p.1,ac p.2.1,ac p.2.2]) (Ent.f7 (enc:=aj) (sz:=3) (xs:=[p]) (n:=1) rfl rfl (fun _ _=>rfl) ag)).trans (Ent.freezeSl.trans ?_);refine(Ent.at (A:=allP (fun p:Int×Stk=>stkP p.2) mp) (Ent.refl _)).trans ?_;refine(Ent.d7 (Ent.at (A:=allP (fun p:Int×Stk=>stkP p.2) x.ret) (Ent.refl _))).trans ?_;refine(b1 _).trans ?_;refine Ent.trans (show Ent (stkP ⟨sad,scap,a0⟩::_) (isl aj 3 sad a0::_) from Ent.refl _) ?_;refine(Ent.dup (bN _ _ _ _).pers).trans ?_;simp only[chgL,cn,ledL,bJ,aj,ao,an];exact ae
 simp only[ao,an];(first|refine GO.ef (Ef.call (qD (some ⟨bl,0,none⟩) 1 [p] sad scap a0 (by rw[aJ];decide) ab (fun y hy=>by rw[List.mem_singleton.1 hy];exact a5) b7) rfl cJ) ag ?_);rintro _ _⟨_,⟨g0,g1,ad2,g3,rfl,rfl⟩,hL⟩;simp only[ao,an] at hL;subst hL;have c0:=By b7 a5;generalize hpi:(pcI [p] a0).length=pn at c0;refine ai3 ?_;intros;by_cases c3:∃y∈a0,¬apart y p
 ·have e3:=c0.2 c3;rw[if_neg (fun q=>q.2 (a7.1 c3))] at hg;rw[hg] at f1 ⊢;(try simp only[chgL,cn,ledL,bJ]);refine ai3 ?_;intros;exact KX.d7 al (by(try simp only[chgL,cn,ledL,bJ]);exact ae) ⟨mp,rfl,fun h=>absurd h ag,rfl⟩
 have e3:¬0<pn:=fun q=>c3 (c0.1 q);rw[if_pos ⟨cg,fun q=>c3 (a7.2 q)⟩] at hg;repeat first|((fail_if_success (with_reducible refine G.atS 14 ?_));(with_reducible apply G.seq))|refine bW ?_|intro _|refine cd ?_
 refine G.ent (L':=asl aj 3 tLot sad a0.length a0::obj b6 tLot [ac p.1,ac p.2.1,ac p.2.2]::chgL b bc s { z with ret:=mp } (ledL b sh x (obj b3 tMv [ac frm,ac to,ac item,ac mn,ah pad parts.length pcap]::L))) ?_ ?_
 ·refine(Ent.at (A:=isl aj 3 sad a0) (Ent.m7 (E:=tLot) (by simp only[maxLen];omega))).trans ?_;(try simp only[chgL,cn,ledL,bJ,aj]);exact ae
 ·skip;simp only[chgL,cn,ledL,bJ];refine G.e9 mixed krStd0 ?_;refine GF.evP (i:=0) rfl krStd0 (Ev.move rfl) ag ?_;refine GF.evP (i:=1) rfl krStd0 (Ev.nilCheck rfl) ag ?_;refine GF.evP (i:=2) rfl krStd0 (by first|exact Ev.fieldAddr rfl|exact Ev.e9 rfl) ag ?_;refine GF.evL (i:=3) rfl krStd0 (by first|exact Ev.d8 rfl rfl|exact Ev.d7 rfl aK|exact Ev.d9 rfl rfl|exact Ev.e7 rfl ab|exact Ev.f7 rfl ab ag rfl) ag ?_;refine GF.evP (i:=4) rfl krStd0 (by first|exact Ev.fieldAddr rfl|exact Ev.e9 rfl) ag ?_;refine GF.evL (i:=5) rfl krStd0 (by first|exact Ev.d8 rfl rfl|exact Ev.d7 rfl aK|exact Ev.d9 rfl rfl|exact Ev.e7 rfl ab|exact Ev.f7 rfl ab ag rfl) ag ?_;refine GF.evP (i:=6) rfl krStd0 (Ev.move rfl) ag ?_;refine GF.evL (i:=8) rfl krStd0 (by first|exact Ev.d8 rfl rfl|exact Ev.d7 rfl aK|exact Ev.d9 rfl rfl|exact Ev.e7 rfl ab|exact Ev.f7 rfl ab ag rfl) ag ?_;refine GF.d7 7 9 krStd0 ?_ ?_
  ·refine GE.ef rfl (Ef.f8 (jE sad a0.length scap b0) rfl) ag ?_;rintro _ _⟨rfl,rfl⟩;refine⟨(by intro pe hp;simp only[bj,aU,or_false] at hp;rcases hp with rfl|rfl|rfl<;>first|exact Ev.d8 rfl rfl|exact Ev.d7 rfl aK|exact Ev.d9 rfl rfl),?_⟩;refine GF.plan [.ef 9,.ef 10,.ef 11,.ef 12] krStd0 rfl ?_;refine ai3 ?_;intros;refine GPW.ef (Ef.j0 (enc:=aj) (e:=p) rfl rfl rfl rfl rfl aK (co _) ab ab) ag ?_;rintro _ _⟨c1,a8,rfl,rfl⟩;refine ai3 ?_;intros;refine GPW.ca (ka c1 (a0++[p]).length a8 (a0++[p]) rfl (by rw[ay,aJ];omega) c7) ?_;rintro _ _⟨a3,a1,ys,rfl,c2,rfl⟩;refine ai3 ?_;intros;refine GPW.fct (iq (ad:=a3) (cap:=a1) (xs:=zset ys) (enc:=aj) (sz:=3) (E:=tLot)) ?_;rintro⟨c4,_⟩;refine GPW.efu (Ef.e7 (enc:=Stk.v) (e:=(⟨a3,a1,zset ys⟩:Stk)) rfl rfl rfl rfl) ?_;rintro _ _⟨rfl,rfl⟩;refine ai3 ?_;intros;refine⟨(i+1,gins mp p.1 ⟨a3,a1,zset ys⟩),⟨by dsimp only;omega,by dsimp only;rw[b5];exact a9 c3 ys c2 ⟨a3,a1,zset ys⟩ rfl c4,hg⟩,by dsimp only;omega,by dsimp only;rw[aV i];exact av,?_⟩;refine(Ent.frz a3).trans ?_;refine(Ent.at (A:=allP (fun p:Int×Stk=>stkP p.2) mp) (Ent.refl _)).trans ?_;refine(Ent.at (A:=isl aj 3 a3 (zset ys)) (lI (s:=⟨a3,a1,zset ys⟩) (k:=p.1))).trans ?_;simp only[chgL,cn,ledL,bJ];exact ae
  ·refine GE.ef rfl (Ef.lit rfl rfl ag rfl) ag ?_;rintro _ _⟨bm,rfl,rfl⟩;refine⟨(by intro pe hp;simp only[bj,aU,or_false] at hp;rcases hp with rfl|rfl|rfl<;>first|exact Ev.d8 rfl rfl|exact Ev.d7 rfl aK|exact Ev.d9 rfl rfl),?_⟩;refine GF.plan [.ef 7,.ef 10,.ef 11,.ef 12] krStd0 rfl ?_;refine ai3 ?_;intros;refine GPW.cr (jE sad a0.length scap b0) ?_;refine ai3 ?_;intros;refine GPW.ef (Ef.j0 (enc:=aj) (e:=p) rfl rfl rfl rfl rfl aK (co _) ab ab) ag ?_;rintro _ _⟨c1,a8,rfl,rfl⟩;refine ai3 ?_;intros;refine GPW.ca (ka c1 (a0++[p]).length a8 (a0++[p]) rfl (by rw[ay,aJ];omega) c7) ?_;rintro _ _⟨a3,a1,ys,rfl,c2,rfl⟩;refine ai3 ?_;intros;refine GPW.fct (iq (ad:=a3) (cap:=a1) (xs:=zset ys) (enc:=aj) (sz:=3) (E:=tLot)) ?_;rintro⟨c4,_⟩;refine GPW.efu (Ef.e7 (enc:=Stk.v) (e:=(⟨a3,a1,zset ys⟩:Stk)) rfl rfl rfl rfl) ?_;rintro _ _⟨rfl,rfl⟩;refine ai3 ?_;intros;refine⟨(i+1,gins mp p.1 ⟨a3,a1,zset ys⟩),⟨by dsimp only;omega,by dsimp only;rw[b5];exact a9 c3 ys c2 ⟨a3,a1,zset ys⟩ rfl c4,hg⟩,by dsimp only;omega,by dsimp only;rw[aV i];exact av,?_⟩;refine(Ent.frz a3).trans ?_;refine(Ent.at (A:=allP (fun p:Int×Stk=>stkP p.2) mp) (Ent.refl _)).trans ?_;refine(Ent.at (A:=isl aj 3 a3 (zset ys)) (lI (s:=⟨a3,a1,zset ys⟩) (k:=p.1))).trans ?_;simp only[chgL,cn,ledL,bJ];exact ae
def yb{sh:Int}{fl fw:List FlM}(h:∀f∈fw,f.to≠0)(item:Int)(p:Lot):gotB sh (fl++fw) item p↔gotB sh fl item p:=by
 unfold gotB;by_cases c:p.1 - sh*4294967296<fl.length∧0≤p.1 - sh*4294967296
 ·obtain⟨c1,c0⟩:=c
  have e:(fl++fw)[(p.1 - sh*4294967296).toNat]! = fl[(p.1 - sh*4294967296).toNat]!:=by
   rw[getElem!_of (by rw[ay];omega),getElem!_of ab,List.getElem_append_left]
  rw[e,ay];exact⟨fun q=>⟨⟨c0,c1⟩,q.2⟩,fun q=>⟨⟨c0,ab⟩,q.2⟩⟩
 ·constructor
  ·rintro⟨⟨q0,q1⟩,q2,_⟩;rw[ay] at q1;have hk:(p.1 - sh*4294967296).toNat<(fl++fw).length:=by rw[ay];omega
   have hm:(fl++fw)[(p.1 - sh*4294967296).toNat]!∈fw:=by
    rw[getElem!_of hk,List.getElem_append_right ab];exact ed _
   exact absurd q2 (h _ hm)
  ·rintro⟨⟨q0,q1⟩,_⟩;exact absurd ⟨q1,q0⟩ c
def xa{sh:Int}{fl fw:List FlM}(h:∀f∈fw,f.to≠0)(item:Int):∀(ps l:LL),retG sh (fl++fw) item ps l=retG sh fl item ps l
 | [],_=>rfl
 | p::ps,l=>by
  rw[mf,mf,xa h item ps];by_cases c:gotB sh fl item p∧¬ ∃y∈ofF l p.1,ovP p y
  ·rw[if_pos c,if_pos ⟨(yb h item p).2 c.1,c.2⟩]
  ·rw[if_neg c,if_neg (fun q=>c ⟨(yb h item p).1 q.1,q.2⟩)]
abbrev Aj:=ay6 [.ev 10]
abbrev Ai:=ay6 []
def ak7{φ ψ:Prop}(k:ψ)(h:Hid ψ→φ:=by intro k;(repeat (first|refine aa ?_|intro zzz|refine G.dr 33 2 Aj ?_|refine G.dr 33 5 Ai ?_));(repeat revert zzz);exact Hid.out k):φ:=h ⟨k⟩
def rp{L R1 R2 R3 R4:LH}{b bc:Nat}{sh:Int}{x:LedX}{s:StV}{z:ChG}[a3:PickObj L b tLed (bJ sh x) R1][a0:PickObj L bc tCh (cn b s z) R2][a1:PickG L z.cs (Int×Int) Stk kvP Stk.v z.stk R3][a2:PickG L x.ms (Int×Int) Stk kvP Stk.v x.stk R4](a i:Int) :
  Tri ai 216 #[ax bc,ac a,ac i] L (fun v L'=>v=(uOf z.stk x.stk (a,i)).v∧L' = L):=by
 refine Tri.bd ?_;refine ak7 ?_;intros;refine GPW.evL (Ev.l8 rfl rfl) ag ?_;cases h:@List.lookup _ _ instBEqOfDecidableEq (a,i) z.stk with
 | some k =>
  simp only[fq,gk,Option.isSome_some];refine ak7 ?_;intros;refine KX.d7 al ae ⟨?_,rfl⟩;unfold uOf glk;rw[h];rfl
 | none =>
  simp only[eK,dY,Option.isSome_none];refine ak7 ?_;intros;refine GPW.evL (Ev.e8 rfl rfl) ag ?_;rw[nZ];refine ak7 ?_;intros;refine KX.d7 al ae ⟨?_,rfl⟩;unfold uOf glk;rw[h];rfl
structure WdG (x:LedX) (z:ChG) (m:MvM):Prop where
 item:0≤m.item∧m.item<x.cat.items.length
 n:0≤m.n∧m.n≤1099511627776
 pv:dM m.parts
 pa:Apart m.parts
 sv:dM (uOf z.stk x.stk (m.frm,m.item)).lots
 sa:Apart (uOf z.stk x.stk (m.frm,m.item)).lots
def lN(own:LL)(m:MvM):Prop:=if m.parts=[] then lsum own<m.n else ¬fF m.parts own
def sP(mixed:Bool)(own:LL)(m:MvM):LL:=if m.parts=[] then gS mixed own m.n else m.parts
def wy(mixed:Bool)(own:LL)(m:MvM):LL:=if m.parts=[] then eN mixed own m.n else dP own m.parts
abbrev Ah:=ay7 [.ev 13,.ev 14,.ev 15,.ef 16,.ev 17,.ev 18,.ev 19,.ev 20,.ev 21,.ev 22,.ev 23]
abbrev Ag:=ay4 [.ef 6]
abbrev xu:=ay5 [.ef 8,.ef 9]
def al1{φ ψ:Prop}(k:ψ)(h:Hid ψ→φ:=by intro k;(repeat (first|refine aa ?_|intro zzz|refine G.dr 73 4 Ah ?_|refine G.dr 73 7 Ag ?_|refine G.dr 73 11 xu ?_));(repeat revert zzz);exact Hid.out k):φ:=h ⟨k⟩
def ug{L:LH}(b bc:Nat)(sh:Int)(x:LedX)(s:StV)(z:ChG)(m:MvV)(h:WdG x z m.m)(hT:TakeC (bO x m.m.item))(b6:x.cat.items.length≤64) :
  Tri ai 264 #[ax bc,aN (aM m)] (isl aj 3 m.pad m.m.parts::chgL b bc s z (ledL b sh x L)) (fun v L' =>
   (lN (uOf z.stk x.stk (m.m.frm,m.m.item)).lots m.m∧v=.tuple #[ah none 0 0,ac 10]∧L' = chgL b bc s z (ledL b sh x L)) ∨
   (¬lN (uOf z.stk x.stk (m.m.frm,m.m.item)).lots m.m∧∃pad pcap sk,v=.tuple #[ah pad (sP (bO x m.m.item) (uOf z.stk x.stk (m.m.frm,m.m.item)).lots m.m).length pcap,ac 0]∧sk.lots=wy (bO x m.m.item) (uOf z.stk x.stk (m.m.frm,m.m.item)).lots m.m ∧
    L' = isl aj 3 pad (sP (bO x m.m.item) (uOf z.stk x.stk (m.m.frm,m.m.item)).lots m.m)::chgL b bc s { z with stk:=gins z.stk (m.m.frm,m.m.item) sk } (ledL b sh x L))):=by
 obtain⟨⟨b1,b5⟩,⟨b0,a9⟩,a6,a7,a3,a8⟩:=h;have b4:=a6.2;obtain⟨⟨frm,to,item,mn,parts⟩,a1,a2⟩:=m;dsimp only at b1 b5 b0 a9 a6 a7 a3 a8 b4 hT ⊢;refine Tri.bd (args:=[ax bc,aN (aM ⟨⟨frm,to,item,mn,parts⟩,a1,a2⟩)]) ?_;refine G.ent (L':=stkP (uOf z.stk x.stk (frm,item))::isl dE 7 x.cat.iad x.cat.items::isl aj 3 a1 parts::chgL b bc s z (ledL b sh x L)) ?_ ?_
 ·simp only[chgL,ledL];refine(Ent.at (A:=catP x.cat) pq).trans ?_;refine(Ent.at (A:=allP (fun p:(Int×Int)×Stk=>stkP p.2) z.stk) (Ent.refl _)).trans ?_;refine(Ent.d7 (Ent.at (A:=allP (fun p:(Int×Int)×Stk=>stkP p.2) x.stk) (Ent.refl _))).trans ?_;refine(qO (frm,item)).trans ?_;exact ae
 simp only[chgL,ledL,aM];refine al1 ?_;intros;rename_i b3;refine GO.cr (rp (b:=b) (sh:=sh) (x:=x) (s:=s) (z:=z) frm item) ?_;generalize hsk:uOf z.stk x.stk (frm,item)=sk at *;obtain⟨sad,scap,a0⟩:=sk;dsimp only at a3 a8 ⊢;have b2:=a3.2;simp only[Stk.v];by_cases hp:parts.length=0
 ·have a5:parts=[]:=aX hp;subst a5;have eB:lN a0 ⟨frm,to,item,mn,[]⟩↔lsum a0<mn:=by unfold lN;rw[if_pos rfl]
  have eP:sP (bO x item) a0 ⟨frm,to,item,mn,[]⟩=gS (bO x item) a0 mn:=if_pos rfl;have eL:wy (bO x item) a0 ⟨frm,to,item,mn,[]⟩=eN (bO x item) a0 mn:=if_pos rfl;rw[eB,eP,eL];refine al1 ?_;intros;refine GPW.ent (Ent.at (A:=stkP ⟨sad,scap,a0⟩) (Ent.refl _)) ?_;refine GPW.ca (hT.tri _ sad scap a0 mn b2 a3.1 b0 a9) ?_;rintro _ _ (⟨h1,rfl,rfl⟩|⟨h1,a4,c1,ad2,c2,rfl,rfl⟩)
  ·refine al1 ?_;intros;exact KX.en (.inl ⟨h1,rfl,rfl⟩)
  ·refine al1 ?_;intros;refine GPW.efu (Ef.e7 (enc:=Stk.v) (e:=(⟨ad2,c2,eN (bO x item) a0 mn⟩:Stk)) rfl rfl rfl rfl) ?_;rintro _ _ rfl;refine al1 ?_;intros;refine KX.d7 al ?_ (.inr ⟨ab,a4,c1,⟨ad2,c2,eN (bO x item) a0 mn⟩,rfl,rfl,rfl⟩);refine(Ent.frz a4).trans ((Ent.frz ad2).trans ?_);refine(Ent.at (A:=allP (fun p:(Int×Int)×Stk=>stkP p.2) z.stk) (Ent.refl _)).trans ?_;refine(Ent.at (A:=stkP ⟨ad2,c2,eN (bO x item) a0 mn⟩) (lI (k:=(frm,item)))).trans ?_;exact ae
 have a5:¬parts=[]:=fun q=>hp (by rw[q];rfl);have eB:lN a0 ⟨frm,to,item,mn,parts⟩↔¬fF parts a0:=by unfold lN;rw[if_neg a5]
 have eP:sP (bO x item) a0 ⟨frm,to,item,mn,parts⟩=parts:=if_neg a5;have eL:wy (bO x item) a0 ⟨frm,to,item,mn,parts⟩=dP a0 parts:=if_neg a5;rw[eB,eP,eL];refine al1 ?_;intros;refine GO.ent ((Ent.at (A:=isl aj 3 a1 parts) (Ent.dup (bN _ _ _ _).pers)).trans ((Ent.at (A:=stkP ⟨sad,scap,a0⟩) (Ent.dup (bN aj 3 sad a0).pers)).trans (Ent.at (A:=isl aj 3 a1 parts) (Ent.refl _)))) ?_;refine GO.cr (xV a1 a2 parts sad scap a0 a6 a7 a3 a8) ?_;by_cases hw:fF parts a0
 case neg =>
  rw[aG hw];refine al1 ?_;intros;exact KX.en (.inl ⟨hw,rfl,rfl⟩)
 rw[aS hw];refine al1 ?_;intros;refine GPW.ca (vW sad scap a0 a1 a2 parts a6 a7 a3) ?_;rintro _ _⟨ad2,c2,rfl,rfl⟩;refine al1 ?_;intros;refine GPW.efu (Ef.e7 (enc:=Stk.v) (e:=(⟨ad2,c2,dP a0 parts⟩:Stk)) rfl rfl rfl rfl) ?_;rintro _ _ rfl;refine al1 ?_;intros;refine GO.ca (ig a1 parts.length a2 parts rfl ab) ?_;rintro _ _⟨a4,c1,rfl,rfl⟩;refine al1 ?_;intros;refine KX.d7 al ?_ (.inr ⟨fun q=>q hw,a4,c1,⟨ad2,c2,dP a0 parts⟩,rfl,rfl,rfl⟩);refine(Ent.frz a4).trans ((Ent.frz ad2).trans ?_);refine(Ent.at (A:=allP (fun p:(Int×Int)×Stk=>stkP p.2) z.stk) (Ent.refl _)).trans ?_;refine(Ent.at (A:=isl aj 3 ad2 (dP a0 parts)) (lI (s:=⟨ad2,c2,dP a0 parts⟩) (k:=(frm,item)))).trans ?_;exact ae
