/- Lemmas. -/
import Derived.Test.YtommnllbflbdmaaGreatDoorAaz
set_option linter.all false
set_option maxHeartbeats 8000000
namespace Go.Proofs.YtommnllbflbdmaaGreatDoor
section
open Go.V
attribute [local irreducible] G GO GP GPW GPK Ev Ef EfR Ent CB GB V.Enters
def fitR(k:Nat)(m:MvM):Prop:=(0≤m.item∧m.item<k)∧(1≤m.n∧m.n≤1099511627776)∧m.frm≠m.to∧(0≤m.frm∧0≤m.to∧m.frm≤1073741824∧m.to≤1073741824)∧m.parts.length=0
instance (k:Nat)(m:MvM):Decidable (fitR k m):=by unfold fitR;infer_instance
abbrev CD:=ay8 [.ev 17,.ev 18,.ev 19,.ev 20,.ev 21,.ev 22,.ev 23,.ev 24,.ev 25,.ev 26,.ev 27,.ev 28,.ev 29,.ev 30,.ev 31,.ev 32,.ev 33,.ev 34,.ev 35,.ev 36,.ev 37,.ev 38,.ev 39,.ev 40,.ev 41,.ev 42,.ev 43,.ev 44,.ev 45,.ev 46,.ev 47,.ev 48,.ev 49,.ev 50]
abbrev CC:=ay3 [.ev 5,.ev 6,.ef 4,.ev 7,.ev 8,.ev 9,.ev 10,.ev 11,.ev 14,.ev 15,.ef 12,.ef 13,.ev 16,.ev 17,.ev 18]
def Pg{φ ψ:Prop}(k:ψ)(h:Hid ψ→φ:=by intro k;(repeat (first|refine aa ?_|intro zzz|refine G.dr 86 1 CD ?_|refine G.dr 86 6 CC ?_));(repeat revert zzz);exact Hid.out k):φ:=h ⟨k⟩
def Cu{L R:LH}{b:Nat}{sh:Int}{x:RLX}[hp:PickObj L b tRL (aL sh x) R](m:MvV) :
  Tri ai 135 #[ax b,aN (aM m),.bool false] L (fun v L'=>v=.bool (dB (fitR x.cat.items.length m.m))∧L' = L):=by
 obtain⟨⟨frm,to,item,n,parts⟩,pad,pcap⟩:=m;refine Tri.bd (args:=[ax b,aN (aM ⟨⟨frm,to,item,n,parts⟩,pad,pcap⟩),.bool false]) ?_;simp only[aM];by_cases h1:0≤item
 case neg =>
  refine Pg ?_;intros;exact KX.d7 al ae ⟨by rw[aG (fun h=>h1 h.1.1)];rfl,rfl⟩
 by_cases h2:item<x.cat.items.length
 case neg =>
  refine Pg ?_;intros;exact KX.d7 al ae ⟨by rw[aG (fun h=>h2 h.1.2)];rfl,rfl⟩
 by_cases h3:1≤n
 case neg =>
  refine Pg ?_;intros;exact KX.d7 al ae ⟨by rw[aG (fun h=>h3 h.2.1.1)];rfl,rfl⟩
 by_cases h4:n≤1099511627776
 case neg =>
  refine Pg ?_;intros;exact KX.d7 al ae ⟨by rw[aG (fun h=>h4 h.2.1.2)];rfl,rfl⟩
 by_cases h5:frm=to
 case pos =>
  refine Pg ?_;intros;exact KX.d7 al ae ⟨by rw[aG (fun h=>h.2.2.1 h5)];rfl,rfl⟩
 by_cases h6:0≤frm
 case neg =>
  refine Pg ?_;intros;exact KX.d7 al ae ⟨by rw[aG (fun h=>h6 h.2.2.2.1.1)];rfl,rfl⟩
 by_cases h7:0≤to
 case neg =>
  refine Pg ?_;intros;exact KX.d7 al ae ⟨by rw[aG (fun h=>h7 h.2.2.2.1.2.1)];rfl,rfl⟩
 by_cases h8:frm≤1073741824
 case neg =>
  refine Pg ?_;intros;exact KX.d7 al ae ⟨by rw[aG (fun h=>h8 h.2.2.2.1.2.2.1)];rfl,rfl⟩
 by_cases h9:to≤1073741824
 case neg =>
  refine Pg ?_;intros;exact KX.d7 al ae ⟨by rw[aG (fun h=>h9 h.2.2.2.1.2.2.2)];rfl,rfl⟩
 refine Pg ?_;intros;refine KX.d7 al ae ⟨?_,rfl⟩;by_cases a0:parts.length=0
 ·rw[aS (ab:((parts.length:Nat):Int)=0),aS (show fitR x.cat.items.length ⟨frm,to,item,n,parts⟩ from⟨⟨h1,h2⟩,⟨h3,h4⟩,h5,⟨h6,h7,h8,h9⟩,a0⟩)];rfl
 ·rw[aG (ab:¬((parts.length:Nat):Int)=0),aG (fun h=>a0 h.2.2.2.2)];rfl
def od(ms:List MvV)(times:Int)(a:Int×Int)(m:MvV):Prop:=m.m.frm=ms[0]!.m.frm∧1≤m.m.frm∧m.m.to=0∧m.m.item=a.1∧m.m.n=a.2*times
def og(ms:List MvV)(times:Int)(a:Int×Int)(m:MvV):Prop:=m.m.frm=0∧1≤m.m.to∧m.m.to=ms[ms.length - 1]!.m.to∧m.m.item=a.1∧m.m.n=a.2*times
def qR(tk gv:List (Int×Int))(ms:List MvV)(times:Int)(k:Nat):Prop:=∀j,j<k→(j<tk.length→od ms times tk[j]! ms[j]!)∧(tk.length≤j→og ms times gv[j - tk.length]! ms[j]!)
def If{c:Nat}{tk gv:List (Int×Int)}{ms:List MvV}{times:Int}(hf:∀m∈ms,fitR c m.m)(hl:ms.length=tk.length+gv.length) :
  qR tk gv ms times ms.length↔(∀i:Nat,i<tk.length→lk (ms.map MvV.m) times tk[i]! (ms.map MvV.m)[i]!)∧(∀i:Nat,i<gv.length→ls ((ms.map MvV.m)[tk.length]!).to times gv[i]! (ms.map MvV.m)[tk.length+i]!):=by
 have hg:∀i,i<ms.length→(ms.map MvV.m)[i]! = ms[i]!.m:=fun i hi=>jT ms hi;constructor
 ·intro h;refine⟨fun i hi=>?_,fun i hi=>?_⟩
  ·rw[hg i ab];obtain⟨h1,h2,h3,h4,h5⟩:=(h i ab).1 hi;refine⟨?_,h3,h4,h5⟩;rw[hg 0 ab];exact h1
  ·rw[hg (tk.length+i) ab,hg tk.length ab];obtain⟨h1,h2,h3,h4,h5⟩:=(h (tk.length+i) ab).2 ab;obtain⟨_,_,g3,_,_⟩:=(h tk.length ab).2 (aB _);rw[show tk.length+i - tk.length=i by omega] at h4 h5;exact⟨h1,h3.trans g3.symm,h4,h5⟩
 ·rintro⟨h1,h2⟩ j hj;refine⟨fun hi=>?_,fun hi=>?_⟩
  ·obtain⟨g1,g2,g3,g4⟩:=h1 j hi;rw[hg j hj] at g1 g2 g3 g4;rw[hg 0 ab] at g1;have hm:=hf _ (aI hj);obtain⟨_,_,f3,⟨f4,_⟩,_⟩:=hm;exact⟨g1,ab,g2,g3,g4⟩
  ·obtain⟨g1,g2,g3,g4⟩:=h2 (j - tk.length) ab;rw[show tk.length+(j - tk.length)=j by omega,hg j hj] at g1 g2 g3 g4;rw[hg tk.length ab] at g2;obtain⟨q1,q2,q3,q4⟩:=h2 (ms.length - 1 - tk.length) ab;rw[show tk.length+(ms.length - 1 - tk.length)=ms.length - 1 by omega,hg (ms.length - 1) ab,hg tk.length ab] at q2;have hm:=hf _ (aI hj);obtain⟨_,_,f3,⟨_,f5,_⟩,_⟩:=hm;exact⟨g1,ab,g2.trans q2.symm,g3,g4⟩
def GJ{tk gv:List (Int×Int)}{ms:List MvV}{times:Int}{k:Nat}(h:qR tk gv ms times k)(hk:(k<tk.length→od ms times tk[k]! ms[k]!)∧(tk.length≤k→og ms times gv[k - tk.length]! ms[k]!)):qR tk gv ms times (k+1):=fun j hj=>by
 rcases cc j k with h1|h1
 ·exact h j h1
 ·obtain rfl:j=k:=ab;exact hk
def IH{r:Int}(h0:0≤aR r):(r<0↔r < -1)∧(r<0→aR r = -2 - r)∧(¬r<0→aR r=r):=by
 unfold aR at *;refine⟨?_,fun h=>?_,fun h=>?_⟩
 ·split at h0<;>omega
 ·split at h0
  ·rw[if_pos ab]
  ·omega
 ·rw[if_neg ab]
abbrev zp:=ay8 [.ev 17,.ev 18,.ev 19,.ev 20,.ev 21,.ev 22,.ev 23,.ev 24,.ev 25,.ev 26,.ev 27,.ev 28,.ev 29,.ev 30,.ev 31,.ev 32,.ev 33,.ev 34]
abbrev zo:=ay8 [.ev 17,.ev 18,.ev 19,.ev 20,.ev 21,.ev 22,.ev 23,.ev 24,.ev 25,.ev 26,.ev 27,.ev 28,.ev 29,.ev 30,.ev 31,.ev 32,.ev 33,.ev 34,.ev 35,.ev 36,.ev 37,.ev 38,.ev 39,.ev 40]
abbrev zn:=ay8 [.ev 17,.ev 18,.ev 19,.ev 20,.ev 21,.ev 22,.ev 23,.ev 24,.ev 25,.ev 26,.ev 27,.ev 28,.ev 29,.ev 30,.ev 31,.ev 32,.ev 33,.ev 34,.ev 35,.ev 36,.ev 37,.ev 38]
def bI{φ ψ:Prop}(k:ψ)(h:Hid ψ→φ:=by intro k;(with_reducible apply G.d7);first|refine G.dr 218 10 zp (Hid.out k)|refine G.dr 218 17 zo (Hid.out k)|refine G.dr 218 20 zn (Hid.out k)):φ:=h ⟨k⟩
def Pq{φ ψ:Prop}(k:ψ)(h:Hid ψ→φ:=by intro k;(repeat (first|refine aa ?_|intro zzz|refine G.dr 218 10 zp ?_|refine G.dr 218 17 zo ?_|refine G.dr 218 20 zn ?_));(repeat revert zzz);exact Hid.out k):φ:=h ⟨k⟩
def zm{L R:LH}{b:Nat}{sh:Int}{x:RLX}[hp:PickObj L b tRL (aL sh x) R](s:StV)[f0:Rds L s.mad MvV aM 5 s.moves](hg:CatGood x.cat.m)(hc:x.cat.m.Ok)(hB:x.cat.B)(e6:1≤s.moves.length∧s.moves.length≤64)(hI:I64 s.rule)(hf:∀m∈s.moves,fitR x.cat.items.length m.m) :
  Tri ai 136 #[ax b,aN (aT s)] (catP x.cat::L) (fun v L'=>v=.bool (dB (fP x.cat.m.rules s.rule s.times (s.moves.map MvV.m)))∧L' = L):=by
 obtain⟨f1,e3⟩:=hI;have e5:=hB.rules;have d2:x.cat.m.rules.length=x.cat.rules.length:=by simp[CatV.m]
 refine Tri.bd ?_;repeat first|((fail_if_success (with_reducible refine G.d9 2 ?_));(with_reducible apply G.seq))|refine bW ?_|intro _|refine bI ?_
 rename_i b3;refine G.d8 (α:=Unit) (fun _=>True) (fun _=>[(0,ax b),(3,ax b3),(5,ac (if s.rule<0 then -2 - s.rule else s.rule))]) (fun _=>obj b3 be (aT s)::catP x.cat::L) ?_ ?_
 ·by_cases hf:s.rule<0
  ·refine Pq ?_;intros;refine⟨(),trivial,?_,by exact ae⟩;rw[if_pos hf];exact av
  ·refine Pq ?_;intros;refine⟨(),trivial,?_,by exact ae⟩;rw[if_neg hf];exact av
 rintro _ _;by_cases h1:0≤aR s.rule
 case neg =>
  have e:¬0≤(if s.rule<0 then -2 - s.rule else s.rule):=by
   unfold aR at h1;split<;>split at h1<;>omega
  obtain⟨q,hq⟩:∃q,(if s.rule<0 then -2 - s.rule else s.rule)=q:=⟨_,rfl⟩;rw[hq] at e;rw[hq];refine Pq ?_;intros;exact KX.d7 al ae ⟨by rw[aG (fun h=>h1 h.1.1)];rfl,rfl⟩
 obtain⟨x1,x2,x3⟩:=IH h1
 have b2:(if s.rule<0 then -2 - s.rule else s.rule)=aR s.rule:=by
  by_cases q:s.rule<0
  ·rw[if_pos q,x2 q]
  ·rw[if_neg q,x3 q]
 rw[b2];by_cases h2:aR s.rule<x.cat.rules.length
 case neg =>
  refine Pq ?_;intros;exact KX.d7 al ae ⟨by rw[aG (fun h=>h2 (by have:=h.1.2;omega))];rfl,rfl⟩
 by_cases b5:1≤s.times
 case neg =>
  refine Pq ?_;intros;exact KX.d7 al ae ⟨by rw[aG (fun h=>b5 h.2.1.1)];rfl,rfl⟩
 by_cases a9:s.times≤1048576
 case neg =>
  refine Pq ?_;intros;exact KX.d7 al ae ⟨by rw[aG (fun h=>a9 h.2.1.2)];rfl,rfl⟩
 have c6:(aR s.rule).toNat<x.cat.rules.length:=ab;have a2:x.cat.rules[(aR s.rule).toNat]!∈x.cat.rules:=aI c6;have b0 : x.cat.m.rules[(aR s.rule).toNat]! = x.cat.rules[(aR s.rule).toNat]!.m:=el RuV.m c6;have a8:x.cat.rules[(aR s.rule).toNat]!.m∈x.cat.m.rules:=alStd0List_mem_map_of_mem a2;have c7:=hg.ru _ a8;refine G.ent (Ent.at (A:=catP x.cat) (catOpenR.trans (Ent.d7 (Ent.d7 Ent.drop)))) ?_;refine G.ent (Ent.at (A:=allP ruP x.cat.rules) ((Ent.e7 (f:=ruP) a2).trans (ruOpen.trans (Ent.d7 (Ent.d7 (Ent.d7 Ent.drop)))))) ?_;have e0:=hB.ru _ a2;have b4:=hc.take _ a8;have d0:=hc.give _ a8;have e1:=hc.back _ a8
 have a6:fP x.cat.m.rules s.rule s.times (s.moves.map MvV.m)↔(x.cat.rules[(aR s.rule).toNat]!.spawn=false∧¬(s.rule < -1∧x.cat.rules[(aR s.rule).toNat]!.chance ≥ x.cat.rules[(aR s.rule).toNat]!.of_)∧s.moves.length=x.cat.rules[(aR s.rule).toNat]!.take.l.length+(x.cat.rules[(aR s.rule).toNat]!.given s.rule).l.length ∧
   (∀i:Nat,i<x.cat.rules[(aR s.rule).toNat]!.take.l.length→lk (s.moves.map MvV.m) s.times x.cat.rules[(aR s.rule).toNat]!.take.l[i]! (s.moves.map MvV.m)[i]!) ∧
   (∀i:Nat,i<(x.cat.rules[(aR s.rule).toNat]!.given s.rule).l.length→ls ((s.moves.map MvV.m)[x.cat.rules[(aR s.rule).toNat]!.take.l.length]!).to s.times (x.cat.rules[(aR s.rule).toNat]!.given s.rule).l[i]! (s.moves.map MvV.m)[x.cat.rules[(aR s.rule).toNat]!.take.l.length+i]!)):=by
  unfold fP;rw[b0,sA,aA];exact⟨fun h=>h.2.2,fun h=>⟨⟨h1,ab⟩,⟨b5,a9⟩,h⟩⟩
 obtain⟨e4,f5,f3⟩:=e0;simp only[AmB,RuV.m] at b4 d0 e1;have e2:(x.cat.rules[(aR s.rule).toNat]!.given s.rule).l.length≤64:=by unfold RuV.given;split<;>assumption
 have d3:∀a∈(x.cat.rules[(aR s.rule).toNat]!.given s.rule).l,0≤a.2∧a.2≤1099511627776:=by unfold RuV.given;split<;>assumption
 have f2:x.cat.rules[(aR s.rule).toNat]!.chance≤x.cat.rules[(aR s.rule).toNat]!.of_:=c7.num.2.2.2.2;cases h4:x.cat.rules[(aR s.rule).toNat]!.spawn with
 | true =>
  refine Pq ?_;intros;rw[h4];refine Pq ?_;intros;exact KX.d7 al ae ⟨by rw[aG (fun h=>by have:=(a6.1 h).1;rw[h4] at this;cases this)];rfl,rfl⟩
 | false =>
 repeat first|((fail_if_success (with_reducible refine G.d9 8 ?_));(with_reducible apply G.seq))|refine bW ?_|intro _|refine bI ?_
 rw[h4];repeat first|((fail_if_success (with_reducible refine G.d9 8 ?_));(with_reducible apply G.seq))|refine bW ?_|intro _|refine bI ?_
 refine G.d8 (α:=Unit) (fun _=>True) (fun _=>[(0,ax b),(3,ax b3),(5,ac (aR s.rule)),(6,ah x.cat.rules[(aR s.rule).toNat]!.take.ad x.cat.rules[(aR s.rule).toNat]!.take.l.length x.cat.rules[(aR s.rule).toNat]!.take.cap),(7,ah (x.cat.rules[(aR s.rule).toNat]!.given s.rule).ad (x.cat.rules[(aR s.rule).toNat]!.given s.rule).l.length (x.cat.rules[(aR s.rule).toNat]!.given s.rule).cap)]) (fun _=>amS (x.cat.rules[(aR s.rule).toNat]!.given s.rule)::amS x.cat.rules[(aR s.rule).toNat]!.take::isl cY 9 x.cat.rad x.cat.rules::obj b3 be (aT s)::L) ?_ ?_
 ·by_cases q:s.rule<0
  ·have eg:(x.cat.rules[(aR s.rule).toNat]!.given s.rule)=x.cat.rules[(aR s.rule).toNat]!.back:=by unfold RuV.given;rw[if_pos (x1.1 q)]
   rw[eg];refine Pq ?_;intros;exact⟨(),trivial,av,by exact ae⟩
  ·have eg:(x.cat.rules[(aR s.rule).toNat]!.given s.rule)=x.cat.rules[(aR s.rule).toNat]!.give:=by unfold RuV.given;rw[if_neg (fun w=>q (x1.2 w))]
   rw[eg];refine Pq ?_;intros;exact⟨(),trivial,av,by exact ae⟩
 rintro _ _;by_cases h5:s.rule<0∧x.cat.rules[(aR s.rule).toNat]!.chance=x.cat.rules[(aR s.rule).toNat]!.of_
 ·obtain⟨a3,b8⟩:=h5;refine Pq ?_;intros;exact KX.d7 al ae ⟨by rw[aG (fun h=>(a6.1 h).2.1 ⟨x1.1 a3,ab⟩)];rfl,rfl⟩
 have c9 : ¬(s.rule < -1∧x.cat.rules[(aR s.rule).toNat]!.chance ≥ x.cat.rules[(aR s.rule).toNat]!.of_):=fun q=>h5 ⟨ab,ab⟩;by_cases h6:s.moves.length=x.cat.rules[(aR s.rule).toNat]!.take.l.length+(x.cat.rules[(aR s.rule).toNat]!.given s.rule).l.length
 case neg =>
  by_cases a3:s.rule<0
  ·have b8:¬x.cat.rules[(aR s.rule).toNat]!.chance=x.cat.rules[(aR s.rule).toNat]!.of_:=fun q=>h5 ⟨a3,q⟩;refine Pq ?_;intros;exact KX.d7 al ae ⟨by rw[aG (fun h=>h6 (a6.1 h).2.2.1)];rfl,rfl⟩
  ·refine Pq ?_;intros;exact KX.d7 al ae ⟨by rw[aG (fun h=>h6 (a6.1 h).2.2.1)];rfl,rfl⟩
 have a4:fP x.cat.m.rules s.rule s.times (s.moves.map MvV.m)↔qR x.cat.rules[(aR s.rule).toNat]!.take.l (x.cat.rules[(aR s.rule).toNat]!.given s.rule).l s.moves s.times s.moves.length:=by
  rw[a6,If hf h6];exact⟨fun h=>⟨h.2.2.2.1,h.2.2.2.2⟩,fun h=>⟨h4,c9,h6,h.1,h.2⟩⟩
 refine G.d8 (α:=Unit) (fun _=>True) (fun _=>[(0,ax b),(3,ax b3),(5,ac (aR s.rule)),(6,ah x.cat.rules[(aR s.rule).toNat]!.take.ad x.cat.rules[(aR s.rule).toNat]!.take.l.length x.cat.rules[(aR s.rule).toNat]!.take.cap),(7,ah (x.cat.rules[(aR s.rule).toNat]!.given s.rule).ad (x.cat.rules[(aR s.rule).toNat]!.given s.rule).l.length (x.cat.rules[(aR s.rule).toNat]!.given s.rule).cap)]) (fun _=>amS (x.cat.rules[(aR s.rule).toNat]!.given s.rule)::amS x.cat.rules[(aR s.rule).toNat]!.take::isl cY 9 x.cat.rad x.cat.rules::obj b3 be (aT s)::L) ?_ ?_
 ·by_cases a3:s.rule<0
  ·have b8:¬x.cat.rules[(aR s.rule).toNat]!.chance=x.cat.rules[(aR s.rule).toNat]!.of_:=fun q=>h5 ⟨a3,q⟩;refine Pq ?_;intros;exact⟨(),trivial,av,by exact ae⟩
  ·refine Pq ?_;intros;exact⟨(),trivial,av,by exact ae⟩
 rintro _ _;have b7:((s.moves.length:Int) - 1).toNat=s.moves.length - 1:=ab;have c8 : ((s.moves.length:Int) - 1).toNat<s.moves.length:=ab;refine Pq ?_;intros;refine G.loop (α:=Nat) (fun k=>k≤s.moves.length∧qR x.cat.rules[(aR s.rule).toNat]!.take.l (x.cat.rules[(aR s.rule).toNat]!.given s.rule).l s.moves s.times k) (fun k=>[(0,ax b),(3,ax b3),(5,ac (aR s.rule)),(6,ah x.cat.rules[(aR s.rule).toNat]!.take.ad x.cat.rules[(aR s.rule).toNat]!.take.l.length x.cat.rules[(aR s.rule).toNat]!.take.cap),(7,ah (x.cat.rules[(aR s.rule).toNat]!.given s.rule).ad (x.cat.rules[(aR s.rule).toNat]!.given s.rule).l.length (x.cat.rules[(aR s.rule).toNat]!.given s.rule).cap),(8,ac (k:Int))]) (fun _=>amS (x.cat.rules[(aR s.rule).toNat]!.given s.rule)::amS x.cat.rules[(aR s.rule).toNat]!.take::isl cY 9 x.cat.rad x.cat.rules::obj b3 be (aT s)::L) (fun k=>s.moves.length - k) 0 ⟨aw _,fun j hj=>absurd hj (cl j)⟩ av (Ent.refl _) ?_;rintro k ⟨hk,c0⟩;by_cases d5:k<s.moves.length
 case neg =>
  obtain rfl:k=s.moves.length:=ab;refine Pq ?_;intros;exact KX.d7 al ae ⟨by rw[aS (a4.2 c0)];rfl,rfl⟩
 have a7:(k:Int).toNat=k:=aC k;have d1 : (k:Int).toNat<s.moves.length:=ab;have b6:¬((k<x.cat.rules[(aR s.rule).toNat]!.take.l.length→od s.moves s.times x.cat.rules[(aR s.rule).toNat]!.take.l[k]! s.moves[k]!)∧(x.cat.rules[(aR s.rule).toNat]!.take.l.length≤k→og s.moves s.times (x.cat.rules[(aR s.rule).toNat]!.given s.rule).l[k - x.cat.rules[(aR s.rule).toNat]!.take.l.length]! s.moves[k]!))→dB (fP x.cat.m.rules s.rule s.times (s.moves.map MvV.m))=false:=fun hn=>aG (fun q=>hn (a4.1 q k d5));have a1:((k<x.cat.rules[(aR s.rule).toNat]!.take.l.length→od s.moves s.times x.cat.rules[(aR s.rule).toNat]!.take.l[k]! s.moves[k]!)∧(x.cat.rules[(aR s.rule).toNat]!.take.l.length≤k→og s.moves s.times (x.cat.rules[(aR s.rule).toNat]!.given s.rule).l[k - x.cat.rules[(aR s.rule).toNat]!.take.l.length]! s.moves[k]!))→qR x.cat.rules[(aR s.rule).toNat]!.take.l (x.cat.rules[(aR s.rule).toNat]!.given s.rule).l s.moves s.times (k+1):=fun h=>GJ c0 h;repeat first|((fail_if_success (with_reducible refine G.d9 16 ?_));(with_reducible apply G.seq))|refine bW ?_|intro _|refine bI ?_
 rename_i b9;rw[a7];by_cases ht:k<x.cat.rules[(aR s.rule).toNat]!.take.l.length
 ·have a5:=b4 _ (aI ht)
  have d6:0≤x.cat.rules[(aR s.rule).toNat]!.take.l[(k:Int).toNat]!.2*s.times∧x.cat.rules[(aR s.rule).toNat]!.take.l[(k:Int).toNat]!.2*s.times≤1099511627776*1048576:=by
   rw[a7];exact⟨dI a5.1 ab,fH a5.2 a9 ab ag⟩
  have a0 : ¬od s.moves s.times x.cat.rules[(aR s.rule).toNat]!.take.l[k]! s.moves[k]!→dB (fP x.cat.m.rules s.rule s.times (s.moves.map MvV.m))=false:=fun q=>b6 (fun w=>q (w.1 ht));have f4:(k:Int).toNat<x.cat.rules[(aR s.rule).toNat]!.take.l.length:=ab;by_cases c1:s.moves[k]!.m.frm=s.moves[(0:Int).toNat]!.m.frm
  case neg =>
   refine Pq ?_;intros;exact KX.d7 al ae ⟨by rw[a0 (fun q=>c1 q.1)];rfl,rfl⟩
  by_cases c2:1≤s.moves[k]!.m.frm
  case neg =>
   refine Pq ?_;intros;exact KX.d7 al ae ⟨by rw[a0 (fun q=>c2 q.2.1)];rfl,rfl⟩
  by_cases c3:s.moves[k]!.m.to=0
  case neg =>
   refine Pq ?_;intros;exact KX.d7 al ae ⟨by rw[a0 (fun q=>c3 q.2.2.1)];rfl,rfl⟩
  by_cases c4:s.moves[k]!.m.item=x.cat.rules[(aR s.rule).toNat]!.take.l[(k:Int).toNat]!.1
  case neg =>
   refine Pq ?_;intros;exact KX.d7 al ae ⟨by rw[a0 (fun q=>c4 (by rw[a7];exact q.2.2.2.1))];rfl,rfl⟩
  by_cases c5:s.moves[k]!.m.n=x.cat.rules[(aR s.rule).toNat]!.take.l[(k:Int).toNat]!.2*s.times
  case neg =>
   refine Pq ?_;intros;exact KX.d7 al ae ⟨by rw[a0 (fun q=>c5 (by rw[a7];exact q.2.2.2.2))];rfl,rfl⟩
  refine Pq ?_;intros;rw[a7] at c4 c5;refine⟨k+1,⟨ab,a1 ⟨fun _=>⟨c1,c2,c3,c4,c5⟩,fun q=>absurd q ab⟩⟩,ab,?_,by exact ae⟩;rw[aV k];exact av
 ·have b1:((k:Int) - (x.cat.rules[(aR s.rule).toNat]!.take.l.length:Int)).toNat=k - x.cat.rules[(aR s.rule).toNat]!.take.l.length:=ab;have d4:((k:Int) - (x.cat.rules[(aR s.rule).toNat]!.take.l.length:Int)).toNat<(x.cat.rules[(aR s.rule).toNat]!.given s.rule).l.length:=ab;have a5:=d3 _ (aI d4);have d6:0≤(x.cat.rules[(aR s.rule).toNat]!.given s.rule).l[((k:Int) - (x.cat.rules[(aR s.rule).toNat]!.take.l.length:Int)).toNat]!.2*s.times∧(x.cat.rules[(aR s.rule).toNat]!.given s.rule).l[((k:Int) - (x.cat.rules[(aR s.rule).toNat]!.take.l.length:Int)).toNat]!.2*s.times≤1099511627776*1048576:=⟨dI a5.1 ab,fH a5.2 a9 ab ag⟩;have a0 : ¬og s.moves s.times (x.cat.rules[(aR s.rule).toNat]!.given s.rule).l[k - x.cat.rules[(aR s.rule).toNat]!.take.l.length]! s.moves[k]!→dB (fP x.cat.m.rules s.rule s.times (s.moves.map MvV.m))=false:=fun q=>b6 (fun w=>q (w.2 ab));by_cases c1:s.moves[k]!.m.frm=0
  case neg =>
   refine Pq ?_;intros;exact KX.d7 al ae ⟨by rw[a0 (fun q=>c1 q.1)];rfl,rfl⟩
  by_cases c2:1≤s.moves[k]!.m.to
  case neg =>
   refine Pq ?_;intros;exact KX.d7 al ae ⟨by rw[a0 (fun q=>c2 q.2.1)];rfl,rfl⟩
  by_cases c3:s.moves[k]!.m.to=s.moves[((s.moves.length:Int) - 1).toNat]!.m.to
  case neg =>
   refine Pq ?_;intros;exact KX.d7 al ae ⟨by rw[a0 (fun q=>c3 (by rw[b7];exact q.2.2.1))];rfl,rfl⟩
  by_cases c4:s.moves[k]!.m.item=(x.cat.rules[(aR s.rule).toNat]!.given s.rule).l[((k:Int) - (x.cat.rules[(aR s.rule).toNat]!.take.l.length:Int)).toNat]!.1
  case neg =>
   refine Pq ?_;intros;exact KX.d7 al ae ⟨by rw[a0 (fun q=>c4 (by rw[b1];exact q.2.2.2.1))];rfl,rfl⟩
  by_cases c5:s.moves[k]!.m.n=(x.cat.rules[(aR s.rule).toNat]!.given s.rule).l[((k:Int) - (x.cat.rules[(aR s.rule).toNat]!.take.l.length:Int)).toNat]!.2*s.times
  case neg =>
   refine Pq ?_;intros;exact KX.d7 al ae ⟨by rw[a0 (fun q=>c5 (by rw[b1];exact q.2.2.2.2))];rfl,rfl⟩
  refine Pq ?_;intros;rw[b1] at c4 c5;rw[b7] at c3;refine⟨k+1,⟨ab,a1 ⟨fun q=>absurd q ht,fun _=>⟨c1,c2,c3,c4,c5⟩⟩⟩,ab,?_,by exact ae⟩;rw[aV k];exact av
def rnow(x:RLX):Int:=(x.steps.getLast?.map (·.tick)).getD 0
