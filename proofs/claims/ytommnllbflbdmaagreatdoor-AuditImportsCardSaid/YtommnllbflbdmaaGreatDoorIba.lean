/- Lemmas. -/
import Derived.Test.YtommnllbflbdmaaGreatDoorIaz
set_option linter.all false
set_option maxHeartbeats 8000000
namespace Go.Proofs.YtommnllbflbdmaaGreatDoor
section
open Go.V
attribute [local irreducible] G GO GP GPW GPK Ev Ef EfR Ent CB GB V.Enters
def fitR(k:Nat)(m:MvM):Prop:=(0≤m.item∧m.item<k)∧(1≤m.n∧m.n≤1099511627776)∧m.frm≠m.to∧(0≤m.frm∧0≤m.to∧m.frm≤1073741824∧m.to≤1073741824)∧m.parts.length=0
instance (k:Nat)(m:MvM):Decidable (fitR k m):=by unfold fitR;infer_instance
abbrev AW:List Stp:=[.ev 0,.ev 1,.ev 2,.ev 3,.ev 4,.ev 5,.ev 6,.ev 7,.ev 8,.ev 9,.ev 10,.ev 11,.ev 12,.ev 13,.ev 14,.ev 15,.ev 16,.ev 17,.ev 18,.ev 19,.ev 20,.ev 21,.ev 22,.ev 23,.ev 24,.ev 25,.ev 26,.ev 27,.ev 28,.ev 29,.ev 30,.ev 31,.ev 32,.ev 33,.ev 34,.ev 35,.ev 36,.ev 37,.ev 38,.ev 39,.ev 40,.ev 41,.ev 42,.ev 43,.ev 44,.ev 45,.ev 46,.ev 47,.ev 48,.ev 49,.ev 50]
abbrev AV:List Stp:=[.ev 0,.ev 1,.ev 2,.ev 3,.ev 5,.ev 6,.ef 4,.ev 7,.ev 8,.ev 9,.ev 10,.ev 11,.ev 14,.ev 15,.ef 12,.ef 13,.ev 16,.ev 17,.ev 18]
def OI{φ ψ:Prop}(k:ψ)(h:Hid ψ→φ:=by intro k;(repeat (first|refine aa ?_|intro zzz|((with_reducible apply G.d8);first|refine G.d7 (N:=86) (id:=1) AW mixed aw ?_|refine G.d7 (N:=86) (id:=6) AV mixed aw ?_)));(repeat revert zzz);exact Hid.out k):φ:=h ⟨k⟩
def AQ{L R:LH}{b:Nat}{sh:Int}{x:RLX}[hp:PickObj L b tRL (aI sh x) R](m:MvV) :
  Tri ag 135 #[av b,.agg (aQ m).toArray,.bool false] L (fun v L'=>v=.bool (dB (fitR x.cat.items.length m.m))∧L' = L):=by
 obtain⟨⟨frm,to,item,n,parts⟩,pad,pcap⟩:=m;refine Tri.bd (args:=[av b,.agg (aQ ⟨⟨frm,to,item,n,parts⟩,pad,pcap⟩).toArray,.bool false]) ?_;simp only[aQ];by_cases h1:0≤item
 case neg =>
  refine OI ?_;intros;exact KX.d7 an ae ⟨by rw[aH (fun h=>h1 h.1.1)];rfl,rfl⟩
 by_cases h2:item<x.cat.items.length
 case neg =>
  refine OI ?_;intros;exact KX.d7 an ae ⟨by rw[aH (fun h=>h2 h.1.2)];rfl,rfl⟩
 by_cases h3:1≤n
 case neg =>
  refine OI ?_;intros;exact KX.d7 an ae ⟨by rw[aH (fun h=>h3 h.2.1.1)];rfl,rfl⟩
 by_cases h4:n≤1099511627776
 case neg =>
  refine OI ?_;intros;exact KX.d7 an ae ⟨by rw[aH (fun h=>h4 h.2.1.2)];rfl,rfl⟩
 by_cases h5:frm=to
 case pos =>
  refine OI ?_;intros;exact KX.d7 an ae ⟨by rw[aH (fun h=>h.2.2.1 h5)];rfl,rfl⟩
 by_cases h6:0≤frm
 case neg =>
  refine OI ?_;intros;exact KX.d7 an ae ⟨by rw[aH (fun h=>h6 h.2.2.2.1.1)];rfl,rfl⟩
 by_cases h7:0≤to
 case neg =>
  refine OI ?_;intros;exact KX.d7 an ae ⟨by rw[aH (fun h=>h7 h.2.2.2.1.2.1)];rfl,rfl⟩
 by_cases h8:frm≤1073741824
 case neg =>
  refine OI ?_;intros;exact KX.d7 an ae ⟨by rw[aH (fun h=>h8 h.2.2.2.1.2.2.1)];rfl,rfl⟩
 by_cases h9:to≤1073741824
 case neg =>
  refine OI ?_;intros;exact KX.d7 an ae ⟨by rw[aH (fun h=>h9 h.2.2.2.1.2.2.2)];rfl,rfl⟩
 refine OI ?_;intros;refine KX.d7 an ae ⟨?_,rfl⟩;by_cases a0:parts.length=0
 ·rw[aT (show((parts.length:Nat):Int)=0 by omega),aT (show fitR x.cat.items.length ⟨frm,to,item,n,parts⟩ from⟨⟨h1,h2⟩,⟨h3,h4⟩,h5,⟨h6,h7,h8,h9⟩,a0⟩)];rfl
 ·rw[aH (show ¬((parts.length:Nat):Int)=0 by omega),aH (fun h=>a0 h.2.2.2.2)];rfl
def nD(ms:List MvV)(times:Int)(a:Int×Int)(m:MvV):Prop:=m.m.frm=ms[0]!.m.frm∧1≤m.m.frm∧m.m.to=0∧m.m.item=a.1∧m.m.n=a.2*times
def nF(ms:List MvV)(times:Int)(a:Int×Int)(m:MvV):Prop:=m.m.frm=0∧1≤m.m.to∧m.m.to=ms[ms.length - 1]!.m.to∧m.m.item=a.1∧m.m.n=a.2*times
def qd(tk gv:List (Int×Int))(ms:List MvV)(times:Int)(k:Nat):Prop:=∀j,j<k→(j<tk.length→nD ms times tk[j]! ms[j]!)∧(tk.length≤j→nF ms times gv[j - tk.length]! ms[j]!)
def Ga{c:Nat}{tk gv:List (Int×Int)}{ms:List MvV}{times:Int}(hf:∀m∈ms,fitR c m.m)(hl:ms.length=tk.length+gv.length) :
  qd tk gv ms times ms.length↔(∀i:Nat,i<tk.length→kN (ms.map MvV.m) times tk[i]! (ms.map MvV.m)[i]!)∧(∀i:Nat,i<gv.length→kS ((ms.map MvV.m)[tk.length]!).to times gv[i]! (ms.map MvV.m)[tk.length+i]!):=by
 have hg:∀i,i<ms.length→(ms.map MvV.m)[i]! = ms[i]!.m:=fun i hi=>jw ms hi;constructor
 ·intro h;refine⟨fun i hi=>?_,fun i hi=>?_⟩
  ·rw[hg i ab];obtain⟨h1,h2,h3,h4,h5⟩:=(h i ab).1 hi;refine⟨?_,h3,h4,h5⟩;rw[hg 0 ab];exact h1
  ·rw[hg (tk.length+i) ab,hg tk.length ab];obtain⟨h1,h2,h3,h4,h5⟩:=(h (tk.length+i) ab).2 ab;obtain⟨_,_,g3,_,_⟩:=(h tk.length ab).2 (aB _);rw[show tk.length+i - tk.length=i by omega] at h4 h5;exact⟨h1,h3.trans g3.symm,h4,h5⟩
 ·rintro⟨h1,h2⟩ j hj;refine⟨fun hi=>?_,fun hi=>?_⟩
  ·obtain⟨g1,g2,g3,g4⟩:=h1 j hi;rw[hg j hj] at g1 g2 g3 g4;rw[hg 0 ab] at g1;have hm:=hf _ (aG hj);obtain⟨_,_,f3,⟨f4,_⟩,_⟩:=hm;exact⟨g1,ab,g2,g3,g4⟩
  ·obtain⟨g1,g2,g3,g4⟩:=h2 (j - tk.length) ab;rw[show tk.length+(j - tk.length)=j by omega,hg j hj] at g1 g2 g3 g4;rw[hg tk.length ab] at g2;obtain⟨q1,q2,q3,q4⟩:=h2 (ms.length - 1 - tk.length) ab;rw[show tk.length+(ms.length - 1 - tk.length)=ms.length - 1 by omega,hg (ms.length - 1) ab,hg tk.length ab] at q2;have hm:=hf _ (aG hj);obtain⟨_,_,f3,⟨_,f5,_⟩,_⟩:=hm;exact⟨g1,ab,g2.trans q2.symm,g3,g4⟩
def EH{tk gv:List (Int×Int)}{ms:List MvV}{times:Int}{k:Nat}(h:qd tk gv ms times k)(hk:(k<tk.length→nD ms times tk[k]! ms[k]!)∧(tk.length≤k→nF ms times gv[k - tk.length]! ms[k]!)):qd tk gv ms times (k+1):=fun j hj=>by
 rcases ce j k with h1|h1
 ·exact h j h1
 ·obtain rfl:j=k:=ab;exact hk
def GI{r:Int}(h0:0≤aO r):(r<0↔r < -1)∧(r<0→aO r = -2 - r)∧(¬r<0→aO r=r):=by
 unfold aO at *;refine⟨?_,fun h=>?_,fun h=>?_⟩
 ·split at h0<;>omega
 ·split at h0
  ·rw[if_pos ab]
  ·omega
 ·rw[if_neg ab]
abbrev xZ:List Stp:=[.ev 0,.ev 1,.ev 2,.ev 3,.ev 4,.ev 5,.ev 6,.ev 7,.ev 8,.ev 9,.ev 10,.ev 11,.ev 12,.ev 13,.ev 14,.ev 15,.ev 16,.ev 17,.ev 18,.ev 19,.ev 20,.ev 21,.ev 22,.ev 23,.ev 24,.ev 25,.ev 26,.ev 27,.ev 28,.ev 29,.ev 30,.ev 31,.ev 32,.ev 33,.ev 34]
abbrev xY:List Stp:=[.ev 0,.ev 1,.ev 2,.ev 3,.ev 4,.ev 5,.ev 6,.ev 7,.ev 8,.ev 9,.ev 10,.ev 11,.ev 12,.ev 13,.ev 14,.ev 15,.ev 16,.ev 17,.ev 18,.ev 19,.ev 20,.ev 21,.ev 22,.ev 23,.ev 24,.ev 25,.ev 26,.ev 27,.ev 28,.ev 29,.ev 30,.ev 31,.ev 32,.ev 33,.ev 34,.ev 35,.ev 36,.ev 37,.ev 38,.ev 39,.ev 40]
abbrev xX:List Stp:=[.ev 0,.ev 1,.ev 2,.ev 3,.ev 4,.ev 5,.ev 6,.ev 7,.ev 8,.ev 9,.ev 10,.ev 11,.ev 12,.ev 13,.ev 14,.ev 15,.ev 16,.ev 17,.ev 18,.ev 19,.ev 20,.ev 21,.ev 22,.ev 23,.ev 24,.ev 25,.ev 26,.ev 27,.ev 28,.ev 29,.ev 30,.ev 31,.ev 32,.ev 33,.ev 34,.ev 35,.ev 36,.ev 37,.ev 38]
def bF{φ ψ:Prop}(k:ψ)(h:Hid ψ→φ:=by intro k;(with_reducible apply G.d8);first|refine G.d7 (N:=218) (id:=10) xZ mixed aw (Hid.out k)|refine G.d7 (N:=218) (id:=17) xY mixed aw (Hid.out k)|refine G.d7 (N:=218) (id:=20) xX mixed aw (Hid.out k)):φ:=h ⟨k⟩
def OT{φ ψ:Prop}(k:ψ)(h:Hid ψ→φ:=by intro k;(repeat (first|refine aa ?_|intro zzz|((with_reducible apply G.d8);first|refine G.d7 (N:=218) (id:=10) xZ mixed aw ?_|refine G.d7 (N:=218) (id:=17) xY mixed aw ?_|refine G.d7 (N:=218) (id:=20) xX mixed aw ?_)));(repeat revert zzz);exact Hid.out k):φ:=h ⟨k⟩
def xW{L R:LH}{b:Nat}{sh:Int}{x:RLX}[hp:PickObj L b tRL (aI sh x) R](s:StV)[e4:Rds L s.mad MvV aQ 5 s.moves](hg:CatGood x.cat.m)(hc:x.cat.m.Ok)(hB:x.cat.B)(f2:1≤s.moves.length∧s.moves.length≤64)(hI:I64 s.rule)(hf:∀m∈s.moves,fitR x.cat.items.length m.m) :
  Tri ag 136 #[av b,.agg (aL s).toArray] (catP x.cat::L) (fun v L'=>v=.bool (dB (fC x.cat.m.rules s.rule s.times (s.moves.map MvV.m)))∧L' = L):=by
 obtain⟨e2,e6⟩:=hI;have f0:=hB.rules;have d4:x.cat.m.rules.length=x.cat.rules.length:=by simp[CatV.m]
 refine Tri.bd ?_;repeat first|((fail_if_success (with_reducible refine G.e7 2 ?_));(with_reducible apply G.seq))|refine bA ?_|intro _|refine bF ?_
 rename_i b3;refine G.d9 (α:=Unit) (fun _=>True) (fun _=>[(0,av b),(3,av b3),(5,ac (if s.rule<0 then -2 - s.rule else s.rule))]) (fun _=>obj b3 bB (aL s)::catP x.cat::L) ?_ ?_
 ·by_cases hf:s.rule<0
  ·refine OT ?_;intros;refine⟨(),trivial,?_,by exact ae⟩;rw[if_pos hf];exact ai
  ·refine OT ?_;intros;refine⟨(),trivial,?_,by exact ae⟩;rw[if_neg hf];exact ai
 rintro _ _;by_cases h1:0≤aO s.rule
 case neg =>
  have e:¬0≤(if s.rule<0 then -2 - s.rule else s.rule):=by
   unfold aO at h1;split<;>split at h1<;>omega
  obtain⟨q,hq⟩:∃q,(if s.rule<0 then -2 - s.rule else s.rule)=q:=⟨_,rfl⟩;rw[hq] at e;rw[hq];refine OT ?_;intros;exact KX.d7 an ae ⟨by rw[aH (fun h=>h1 h.1.1)];rfl,rfl⟩
 obtain⟨x1,x2,x3⟩:=GI h1
 have b1:(if s.rule<0 then -2 - s.rule else s.rule)=aO s.rule:=by
  by_cases q:s.rule<0
  ·rw[if_pos q,x2 q]
  ·rw[if_neg q,x3 q]
 rw[b1];by_cases h2:aO s.rule<x.cat.rules.length
 case neg =>
  refine OT ?_;intros;exact KX.d7 an ae ⟨by rw[aH (fun h=>h2 (by have:=h.1.2;omega))];rfl,rfl⟩
 by_cases b4:1≤s.times
 case neg =>
  refine OT ?_;intros;exact KX.d7 an ae ⟨by rw[aH (fun h=>b4 h.2.1.1)];rfl,rfl⟩
 by_cases a8:s.times≤1048576
 case neg =>
  refine OT ?_;intros;exact KX.d7 an ae ⟨by rw[aH (fun h=>a8 h.2.1.2)];rfl,rfl⟩
 have b8:(aO s.rule).toNat<x.cat.rules.length:=ab;have a2:x.cat.rules[(aO s.rule).toNat]!∈x.cat.rules:=aG b8;have b0 : x.cat.m.rules[(aO s.rule).toNat]! = x.cat.rules[(aO s.rule).toNat]!.m:=dP RuV.m b8;have a9:x.cat.rules[(aO s.rule).toNat]!.m∈x.cat.m.rules:=alStd0List_mem_map_of_mem a2;have e1:=hg.ru _ a9;refine G.ent (Ent.at (A:=catP x.cat) (catOpenR.trans (Ent.d7 (Ent.d7 Ent.drop)))) ?_;refine G.ent (Ent.at (A:=allP ruP x.cat.rules) ((Ent.d8 (f:=ruP) a2).trans (ruOpen.trans (Ent.d7 (Ent.d7 (Ent.d7 Ent.drop)))))) ?_;have d0:=hB.ru _ a2;have c0:=hc.take _ a9;have d1:=hc.give _ a9;have d6:=hc.back _ a9
 have a7:fC x.cat.m.rules s.rule s.times (s.moves.map MvV.m)↔(x.cat.rules[(aO s.rule).toNat]!.spawn=false∧¬(s.rule < -1∧x.cat.rules[(aO s.rule).toNat]!.chance ≥ x.cat.rules[(aO s.rule).toNat]!.of_)∧s.moves.length=x.cat.rules[(aO s.rule).toNat]!.take.l.length+(x.cat.rules[(aO s.rule).toNat]!.given s.rule).l.length ∧
   (∀i:Nat,i<x.cat.rules[(aO s.rule).toNat]!.take.l.length→kN (s.moves.map MvV.m) s.times x.cat.rules[(aO s.rule).toNat]!.take.l[i]! (s.moves.map MvV.m)[i]!) ∧
   (∀i:Nat,i<(x.cat.rules[(aO s.rule).toNat]!.given s.rule).l.length→kS ((s.moves.map MvV.m)[x.cat.rules[(aO s.rule).toNat]!.take.l.length]!).to s.times (x.cat.rules[(aO s.rule).toNat]!.given s.rule).l[i]! (s.moves.map MvV.m)[x.cat.rules[(aO s.rule).toNat]!.take.l.length+i]!)):=by
  unfold fC;rw[b0,rp,aA];exact⟨fun h=>h.2.2,fun h=>⟨⟨h1,ab⟩,⟨b4,a8⟩,h⟩⟩
 obtain⟨e5,f3,f4⟩:=d0;simp only[AmB,RuV.m] at c0 d1 d6;have f1:(x.cat.rules[(aO s.rule).toNat]!.given s.rule).l.length≤64:=by unfold RuV.given;split<;>assumption
 have d2:∀a∈(x.cat.rules[(aO s.rule).toNat]!.given s.rule).l,0≤a.2∧a.2≤1099511627776:=by unfold RuV.given;split<;>assumption
 have f5:x.cat.rules[(aO s.rule).toNat]!.chance≤x.cat.rules[(aO s.rule).toNat]!.of_:=e1.num.2.2.2.2;cases h4:x.cat.rules[(aO s.rule).toNat]!.spawn with
 | true =>
  refine OT ?_;intros;rw[h4];refine OT ?_;intros;exact KX.d7 an ae ⟨by rw[aH (fun h=>by have:=(a7.1 h).1;rw[h4] at this;cases this)];rfl,rfl⟩
 | false =>
 repeat first|((fail_if_success (with_reducible refine G.e7 8 ?_));(with_reducible apply G.seq))|refine bA ?_|intro _|refine bF ?_
 rw[h4];repeat first|((fail_if_success (with_reducible refine G.e7 8 ?_));(with_reducible apply G.seq))|refine bA ?_|intro _|refine bF ?_
 refine G.d9 (α:=Unit) (fun _=>True) (fun _=>[(0,av b),(3,av b3),(5,ac (aO s.rule)),(6,.slice x.cat.rules[(aO s.rule).toNat]!.take.ad x.cat.rules[(aO s.rule).toNat]!.take.l.length x.cat.rules[(aO s.rule).toNat]!.take.cap),(7,.slice (x.cat.rules[(aO s.rule).toNat]!.given s.rule).ad (x.cat.rules[(aO s.rule).toNat]!.given s.rule).l.length (x.cat.rules[(aO s.rule).toNat]!.given s.rule).cap)]) (fun _=>amS (x.cat.rules[(aO s.rule).toNat]!.given s.rule)::amS x.cat.rules[(aO s.rule).toNat]!.take::isl bR 9 x.cat.rad x.cat.rules::obj b3 bB (aL s)::L) ?_ ?_
 ·by_cases q:s.rule<0
  ·have eg:(x.cat.rules[(aO s.rule).toNat]!.given s.rule)=x.cat.rules[(aO s.rule).toNat]!.back:=by unfold RuV.given;rw[if_pos (x1.1 q)]
   rw[eg];refine OT ?_;intros;exact⟨(),trivial,ai,by exact ae⟩
  ·have eg:(x.cat.rules[(aO s.rule).toNat]!.given s.rule)=x.cat.rules[(aO s.rule).toNat]!.give:=by unfold RuV.given;rw[if_neg (fun w=>q (x1.2 w))]
   rw[eg];refine OT ?_;intros;exact⟨(),trivial,ai,by exact ae⟩
 rintro _ _;by_cases h5:s.rule<0∧x.cat.rules[(aO s.rule).toNat]!.chance=x.cat.rules[(aO s.rule).toNat]!.of_
 ·obtain⟨a5,b6⟩:=h5;refine OT ?_;intros;exact KX.d7 an ae ⟨by rw[aH (fun h=>(a7.1 h).2.1 ⟨x1.1 a5,ab⟩)];rfl,rfl⟩
 have e0 : ¬(s.rule < -1∧x.cat.rules[(aO s.rule).toNat]!.chance ≥ x.cat.rules[(aO s.rule).toNat]!.of_):=fun q=>h5 ⟨ab,ab⟩;by_cases h6:s.moves.length=x.cat.rules[(aO s.rule).toNat]!.take.l.length+(x.cat.rules[(aO s.rule).toNat]!.given s.rule).l.length
 case neg =>
  by_cases a5:s.rule<0
  ·have b6:¬x.cat.rules[(aO s.rule).toNat]!.chance=x.cat.rules[(aO s.rule).toNat]!.of_:=fun q=>h5 ⟨a5,q⟩;refine OT ?_;intros;exact KX.d7 an ae ⟨by rw[aH (fun h=>h6 (a7.1 h).2.2.1)];rfl,rfl⟩
  ·refine OT ?_;intros;exact KX.d7 an ae ⟨by rw[aH (fun h=>h6 (a7.1 h).2.2.1)];rfl,rfl⟩
 have a3:fC x.cat.m.rules s.rule s.times (s.moves.map MvV.m)↔qd x.cat.rules[(aO s.rule).toNat]!.take.l (x.cat.rules[(aO s.rule).toNat]!.given s.rule).l s.moves s.times s.moves.length:=by
  rw[a7,Ga hf h6];exact⟨fun h=>⟨h.2.2.2.1,h.2.2.2.2⟩,fun h=>⟨h4,e0,h6,h.1,h.2⟩⟩
 refine G.d9 (α:=Unit) (fun _=>True) (fun _=>[(0,av b),(3,av b3),(5,ac (aO s.rule)),(6,.slice x.cat.rules[(aO s.rule).toNat]!.take.ad x.cat.rules[(aO s.rule).toNat]!.take.l.length x.cat.rules[(aO s.rule).toNat]!.take.cap),(7,.slice (x.cat.rules[(aO s.rule).toNat]!.given s.rule).ad (x.cat.rules[(aO s.rule).toNat]!.given s.rule).l.length (x.cat.rules[(aO s.rule).toNat]!.given s.rule).cap)]) (fun _=>amS (x.cat.rules[(aO s.rule).toNat]!.given s.rule)::amS x.cat.rules[(aO s.rule).toNat]!.take::isl bR 9 x.cat.rad x.cat.rules::obj b3 bB (aL s)::L) ?_ ?_
 ·by_cases a5:s.rule<0
  ·have b6:¬x.cat.rules[(aO s.rule).toNat]!.chance=x.cat.rules[(aO s.rule).toNat]!.of_:=fun q=>h5 ⟨a5,q⟩;refine OT ?_;intros;exact⟨(),trivial,ai,by exact ae⟩
  ·refine OT ?_;intros;exact⟨(),trivial,ai,by exact ae⟩
 rintro _ _;have b5:((s.moves.length:Int) - 1).toNat=s.moves.length - 1:=ab;have d3 : ((s.moves.length:Int) - 1).toNat<s.moves.length:=ab;refine OT ?_;intros;refine G.loop (α:=Nat) (fun k=>k≤s.moves.length∧qd x.cat.rules[(aO s.rule).toNat]!.take.l (x.cat.rules[(aO s.rule).toNat]!.given s.rule).l s.moves s.times k) (fun k=>[(0,av b),(3,av b3),(5,ac (aO s.rule)),(6,.slice x.cat.rules[(aO s.rule).toNat]!.take.ad x.cat.rules[(aO s.rule).toNat]!.take.l.length x.cat.rules[(aO s.rule).toNat]!.take.cap),(7,.slice (x.cat.rules[(aO s.rule).toNat]!.given s.rule).ad (x.cat.rules[(aO s.rule).toNat]!.given s.rule).l.length (x.cat.rules[(aO s.rule).toNat]!.given s.rule).cap),(8,ac (k:Int))]) (fun _=>amS (x.cat.rules[(aO s.rule).toNat]!.given s.rule)::amS x.cat.rules[(aO s.rule).toNat]!.take::isl bR 9 x.cat.rad x.cat.rules::obj b3 bB (aL s)::L) (fun k=>s.moves.length - k) 0 ⟨aj _,fun j hj=>absurd hj (bJ j)⟩ ai (Ent.refl _) ?_;rintro k ⟨hk,b7⟩;by_cases c8:k<s.moves.length
 case neg =>
  obtain rfl:k=s.moves.length:=ab;refine OT ?_;intros;exact KX.d7 an ae ⟨by rw[aT (a3.2 b7)];rfl,rfl⟩
 have a4:(k:Int).toNat=k:=ay k;have d5 : (k:Int).toNat<s.moves.length:=ab;have c6:¬((k<x.cat.rules[(aO s.rule).toNat]!.take.l.length→nD s.moves s.times x.cat.rules[(aO s.rule).toNat]!.take.l[k]! s.moves[k]!)∧(x.cat.rules[(aO s.rule).toNat]!.take.l.length≤k→nF s.moves s.times (x.cat.rules[(aO s.rule).toNat]!.given s.rule).l[k - x.cat.rules[(aO s.rule).toNat]!.take.l.length]! s.moves[k]!))→dB (fC x.cat.m.rules s.rule s.times (s.moves.map MvV.m))=false:=fun hn=>aH (fun q=>hn (a3.1 q k c8));have a1:((k<x.cat.rules[(aO s.rule).toNat]!.take.l.length→nD s.moves s.times x.cat.rules[(aO s.rule).toNat]!.take.l[k]! s.moves[k]!)∧(x.cat.rules[(aO s.rule).toNat]!.take.l.length≤k→nF s.moves s.times (x.cat.rules[(aO s.rule).toNat]!.given s.rule).l[k - x.cat.rules[(aO s.rule).toNat]!.take.l.length]! s.moves[k]!))→qd x.cat.rules[(aO s.rule).toNat]!.take.l (x.cat.rules[(aO s.rule).toNat]!.given s.rule).l s.moves s.times (k+1):=fun h=>EH b7 h;repeat first|((fail_if_success (with_reducible refine G.e7 16 ?_));(with_reducible apply G.seq))|refine bA ?_|intro _|refine bF ?_
 rename_i b9;rw[a4];by_cases ht:k<x.cat.rules[(aO s.rule).toNat]!.take.l.length
 ·have a6:=c0 _ (aG ht)
  have c9:0≤x.cat.rules[(aO s.rule).toNat]!.take.l[(k:Int).toNat]!.2*s.times∧x.cat.rules[(aO s.rule).toNat]!.take.l[(k:Int).toNat]!.2*s.times≤1099511627776*1048576:=by
   rw[a4];exact⟨dy a6.1 ab,eQ a6.2 a8 ab ah⟩
  have a0 : ¬nD s.moves s.times x.cat.rules[(aO s.rule).toNat]!.take.l[k]! s.moves[k]!→dB (fC x.cat.m.rules s.rule s.times (s.moves.map MvV.m))=false:=fun q=>c6 (fun w=>q (w.1 ht));have e3:(k:Int).toNat<x.cat.rules[(aO s.rule).toNat]!.take.l.length:=ab;by_cases c1:s.moves[k]!.m.frm=s.moves[(0:Int).toNat]!.m.frm
  case neg =>
   refine OT ?_;intros;exact KX.d7 an ae ⟨by rw[a0 (fun q=>c1 q.1)];rfl,rfl⟩
  by_cases c2:1≤s.moves[k]!.m.frm
  case neg =>
   refine OT ?_;intros;exact KX.d7 an ae ⟨by rw[a0 (fun q=>c2 q.2.1)];rfl,rfl⟩
  by_cases c3:s.moves[k]!.m.to=0
  case neg =>
   refine OT ?_;intros;exact KX.d7 an ae ⟨by rw[a0 (fun q=>c3 q.2.2.1)];rfl,rfl⟩
  by_cases c4:s.moves[k]!.m.item=x.cat.rules[(aO s.rule).toNat]!.take.l[(k:Int).toNat]!.1
  case neg =>
   refine OT ?_;intros;exact KX.d7 an ae ⟨by rw[a0 (fun q=>c4 (by rw[a4];exact q.2.2.2.1))];rfl,rfl⟩
  by_cases c5:s.moves[k]!.m.n=x.cat.rules[(aO s.rule).toNat]!.take.l[(k:Int).toNat]!.2*s.times
  case neg =>
   refine OT ?_;intros;exact KX.d7 an ae ⟨by rw[a0 (fun q=>c5 (by rw[a4];exact q.2.2.2.2))];rfl,rfl⟩
  refine OT ?_;intros;rw[a4] at c4 c5;refine⟨k+1,⟨ab,a1 ⟨fun _=>⟨c1,c2,c3,c4,c5⟩,fun q=>absurd q ab⟩⟩,ab,?_,by exact ae⟩;rw[aK k];exact ai
 ·have b2:((k:Int) - (x.cat.rules[(aO s.rule).toNat]!.take.l.length:Int)).toNat=k - x.cat.rules[(aO s.rule).toNat]!.take.l.length:=ab;have c7:((k:Int) - (x.cat.rules[(aO s.rule).toNat]!.take.l.length:Int)).toNat<(x.cat.rules[(aO s.rule).toNat]!.given s.rule).l.length:=ab;have a6:=d2 _ (aG c7);have c9:0≤(x.cat.rules[(aO s.rule).toNat]!.given s.rule).l[((k:Int) - (x.cat.rules[(aO s.rule).toNat]!.take.l.length:Int)).toNat]!.2*s.times∧(x.cat.rules[(aO s.rule).toNat]!.given s.rule).l[((k:Int) - (x.cat.rules[(aO s.rule).toNat]!.take.l.length:Int)).toNat]!.2*s.times≤1099511627776*1048576:=⟨dy a6.1 ab,eQ a6.2 a8 ab ah⟩;have a0 : ¬nF s.moves s.times (x.cat.rules[(aO s.rule).toNat]!.given s.rule).l[k - x.cat.rules[(aO s.rule).toNat]!.take.l.length]! s.moves[k]!→dB (fC x.cat.m.rules s.rule s.times (s.moves.map MvV.m))=false:=fun q=>c6 (fun w=>q (w.2 ab));by_cases c1:s.moves[k]!.m.frm=0
  case neg =>
   refine OT ?_;intros;exact KX.d7 an ae ⟨by rw[a0 (fun q=>c1 q.1)];rfl,rfl⟩
  by_cases c2:1≤s.moves[k]!.m.to
  case neg =>
   refine OT ?_;intros;exact KX.d7 an ae ⟨by rw[a0 (fun q=>c2 q.2.1)];rfl,rfl⟩
  by_cases c3:s.moves[k]!.m.to=s.moves[((s.moves.length:Int) - 1).toNat]!.m.to
  case neg =>
   refine OT ?_;intros;exact KX.d7 an ae ⟨by rw[a0 (fun q=>c3 (by rw[b5];exact q.2.2.1))];rfl,rfl⟩
  by_cases c4:s.moves[k]!.m.item=(x.cat.rules[(aO s.rule).toNat]!.given s.rule).l[((k:Int) - (x.cat.rules[(aO s.rule).toNat]!.take.l.length:Int)).toNat]!.1
  case neg =>
   refine OT ?_;intros;exact KX.d7 an ae ⟨by rw[a0 (fun q=>c4 (by rw[b2];exact q.2.2.2.1))];rfl,rfl⟩
  by_cases c5:s.moves[k]!.m.n=(x.cat.rules[(aO s.rule).toNat]!.given s.rule).l[((k:Int) - (x.cat.rules[(aO s.rule).toNat]!.take.l.length:Int)).toNat]!.2*s.times
  case neg =>
   refine OT ?_;intros;exact KX.d7 an ae ⟨by rw[a0 (fun q=>c5 (by rw[b2];exact q.2.2.2.2))];rfl,rfl⟩
  refine OT ?_;intros;rw[b2] at c4 c5;rw[b5] at c3;refine⟨k+1,⟨ab,a1 ⟨fun q=>absurd q ht,fun _=>⟨c1,c2,c3,c4,c5⟩⟩⟩,ab,?_,by exact ae⟩;rw[aK k];exact ai
def rnow(x:RLX):Int:=(x.steps.getLast?.map (·.tick)).getD 0
