/- Lemmas. -/
import Derived.Test.YtommnllbflbdmaaGreatDoorFav
set_option linter.all false
set_option maxHeartbeats 8000000
namespace Go.Proofs.YtommnllbflbdmaaGreatDoor
section
open Go.V
attribute [local irreducible] G GO GP GPW GPK Ev Ef EfR Ent CB GB V.Enters
def fitR(k:Nat)(m:MvM):Prop:=(0≤m.item∧m.item<k)∧(1≤m.n∧m.n≤1099511627776)∧m.frm≠m.to∧(0≤m.frm∧0≤m.to∧m.frm≤1073741824∧m.to≤1073741824)∧m.parts.length=0
instance (k:Nat)(m:MvM):Decidable (fitR k m):=by unfold fitR;infer_instance
abbrev CT:=aH4 [.ev 17,.ev 18,.ev 19,.ev 20,.ev 21,.ev 22,.ev 23,.ev 24,.ev 25,.ev 26,.ev 27,.ev 28,.ev 29,.ev 30,.ev 31,.ev 32,.ev 33,.ev 34,.ev 35,.ev 36,.ev 37,.ev 38,.ev 39,.ev 40,.ev 41,.ev 42,.ev 43,.ev 44,.ev 45,.ev 46,.ev 47,.ev 48,.ev 49,.ev 50]
abbrev CS:=aG9 [.ev 5,.ev 6,.ef 4,.ev 7,.ev 8,.ev 9,.ev 10,.ev 11,.ev 14,.ev 15,.ef 12,.ef 13,.ev 16,.ev 17,.ev 18]
def PC{φ ψ:Prop}(k:ψ)(h:Hid ψ→φ:=by intro k;(repeat (first|refine aa ?_|intro zzz|refine G.dr 86 1 CT ?_|refine G.dr 86 6 CS ?_));(repeat revert zzz);exact Hid.out k):φ:=h ⟨k⟩
def CL{L R:LH}{b:Nat}{sh:Int}{x:RLX}[hp:PickObj L b tRL (aI sh x) R](m:MvV) :
  Tri ai 135 #[ay b,aO (aL m),.bool false] L (rtQ (.bool (dB (fitR x.cat.items.length m.m))) L):=by
 obtain⟨⟨frm,to,item,n,parts⟩,pad,pcap⟩:=m;refine Tri.bd (args:=[ay b,aO (aL ⟨⟨frm,to,item,n,parts⟩,pad,pcap⟩),.bool false]) ?_;simp only[aL];by_cases h1:0≤item
 case neg =>
  refine PC ?_;intros;exact KX.d7 an ag ⟨by rw[aH (fun h=>h1 h.1.1)];rfl,rfl⟩
 by_cases h2:item<x.cat.items.length
 case neg =>
  refine PC ?_;intros;exact KX.d7 an ag ⟨by rw[aH (fun h=>h2 h.1.2)];rfl,rfl⟩
 by_cases h3:1≤n
 case neg =>
  refine PC ?_;intros;exact KX.d7 an ag ⟨by rw[aH (fun h=>h3 h.2.1.1)];rfl,rfl⟩
 by_cases h4:n≤1099511627776
 case neg =>
  refine PC ?_;intros;exact KX.d7 an ag ⟨by rw[aH (fun h=>h4 h.2.1.2)];rfl,rfl⟩
 by_cases h5:frm=to
 case pos =>
  refine PC ?_;intros;exact KX.d7 an ag ⟨by rw[aH (fun h=>h.2.2.1 h5)];rfl,rfl⟩
 by_cases h6:0≤frm
 case neg =>
  refine PC ?_;intros;exact KX.d7 an ag ⟨by rw[aH (fun h=>h6 h.2.2.2.1.1)];rfl,rfl⟩
 by_cases h7:0≤to
 case neg =>
  refine PC ?_;intros;exact KX.d7 an ag ⟨by rw[aH (fun h=>h7 h.2.2.2.1.2.1)];rfl,rfl⟩
 by_cases h8:frm≤1073741824
 case neg =>
  refine PC ?_;intros;exact KX.d7 an ag ⟨by rw[aH (fun h=>h8 h.2.2.2.1.2.2.1)];rfl,rfl⟩
 by_cases h9:to≤1073741824
 case neg =>
  refine PC ?_;intros;exact KX.d7 an ag ⟨by rw[aH (fun h=>h9 h.2.2.2.1.2.2.2)];rfl,rfl⟩
 refine PC ?_;intros;refine KX.d7 an ag ⟨?_,rfl⟩;by_cases a0:parts.length=0
 ·rw[aU (ab:((parts.length:Nat):Int)=0),aU (show fitR x.cat.items.length ⟨frm,to,item,n,parts⟩ from⟨⟨h1,h2⟩,⟨h3,h4⟩,h5,⟨h6,h7,h8,h9⟩,a0⟩)];rfl
 ·rw[aH (ab:¬((parts.length:Nat):Int)=0),aH (fun h=>a0 h.2.2.2.2)];rfl
def oe(ms:List MvV)(times:Int)(a:Int×Int)(m:MvV):Prop:=m.m.frm=ms[0]!.m.frm∧1≤m.m.frm∧m.m.to=0∧m.m.item=a.1∧m.m.n=a.2*times
def oh(ms:List MvV)(times:Int)(a:Int×Int)(m:MvV):Prop:=m.m.frm=0∧1≤m.m.to∧m.m.to=ms[ms.length - 1]!.m.to∧m.m.item=a.1∧m.m.n=a.2*times
def qV(tk gv:List (Int×Int))(ms:List MvV)(times:Int)(k:Nat):Prop:=∀j,j<k→(j<tk.length→oe ms times tk[j]! ms[j]!)∧(tk.length≤j→oh ms times gv[j - tk.length]! ms[j]!)
def Ix{c:Nat}{tk gv:List (Int×Int)}{ms:List MvV}{times:Int}(hf:∀m∈ms,fitR c m.m)(hl:ms.length=tk.length+gv.length) :
  qV tk gv ms times ms.length↔(∀i:Nat,i<tk.length→li (ms.map MvV.m) times tk[i]! (ms.map MvV.m)[i]!)∧(∀i:Nat,i<gv.length→lp ((ms.map MvV.m)[tk.length]!).to times gv[i]! (ms.map MvV.m)[tk.length+i]!):=by
 have hg:∀i,i<ms.length→(ms.map MvV.m)[i]! = ms[i]!.m:=fun i hi=>jG ms hi;constructor
 ·intro h;refine⟨fun i hi=>?_,fun i hi=>?_⟩
  ·rw[hg i ab];obtain⟨h1,h2,h3,h4,h5⟩:=(h i ab).1 hi;refine⟨?_,h3,h4,h5⟩;rw[hg 0 ab];exact h1
  ·rw[hg (tk.length+i) ab,hg tk.length ab];obtain⟨h1,h2,h3,h4,h5⟩:=(h (tk.length+i) ab).2 ab;obtain⟨_,_,g3,_,_⟩:=(h tk.length ab).2 (aB _);rw[show tk.length+i - tk.length=i by omega] at h4 h5;exact⟨h1,h3.trans g3.symm,h4,h5⟩
 ·rintro⟨h1,h2⟩ j hj;refine⟨fun hi=>?_,fun hi=>?_⟩
  ·obtain⟨g1,g2,g3,g4⟩:=h1 j hi;rw[hg j hj] at g1 g2 g3 g4;rw[hg 0 ab] at g1;have hm:=hf _ (aJ hj);obtain⟨_,_,f3,⟨f4,_⟩,_⟩:=hm;exact⟨g1,ab,g2,g3,g4⟩
  ·obtain⟨g1,g2,g3,g4⟩:=h2 (j - tk.length) ab;rw[show tk.length+(j - tk.length)=j by omega,hg j hj] at g1 g2 g3 g4;rw[hg tk.length ab] at g2;obtain⟨q1,q2,q3,q4⟩:=h2 (ms.length - 1 - tk.length) ab;rw[show tk.length+(ms.length - 1 - tk.length)=ms.length - 1 by omega,hg (ms.length - 1) ab,hg tk.length ab] at q2;have hm:=hf _ (aJ hj);obtain⟨_,_,f3,⟨_,f5,_⟩,_⟩:=hm;exact⟨g1,ab,g2.trans q2.symm,g3,g4⟩
def Hf{tk gv:List (Int×Int)}{ms:List MvV}{times:Int}{k:Nat}(h:qV tk gv ms times k)(hk:(k<tk.length→oe ms times tk[k]! ms[k]!)∧(tk.length≤k→oh ms times gv[k - tk.length]! ms[k]!)):qV tk gv ms times (k+1):=fun j hj=>by
 rcases cm j k with h1|h1
 ·exact h j h1
 ·obtain rfl:j=k:=ab;exact hk
def Ja{r:Int}(h0:0≤aS r):(r<0↔r < -1)∧(r<0→aS r = -2 - r)∧(¬r<0→aS r=r):=by
 unfold aS at *;refine⟨?_,fun h=>?_,fun h=>?_⟩
 ·split at h0<;>omega
 ·split at h0
  ·rw[if_pos ab]
  ·omega
 ·rw[if_neg ab]
abbrev zI:=aH4 [.ev 17,.ev 18,.ev 19,.ev 20,.ev 21,.ev 22,.ev 23,.ev 24,.ev 25,.ev 26,.ev 27,.ev 28,.ev 29,.ev 30,.ev 31,.ev 32,.ev 33,.ev 34]
abbrev zH:=aH4 [.ev 17,.ev 18,.ev 19,.ev 20,.ev 21,.ev 22,.ev 23,.ev 24,.ev 25,.ev 26,.ev 27,.ev 28,.ev 29,.ev 30,.ev 31,.ev 32,.ev 33,.ev 34,.ev 35,.ev 36,.ev 37,.ev 38,.ev 39,.ev 40]
abbrev zG:=aH4 [.ev 17,.ev 18,.ev 19,.ev 20,.ev 21,.ev 22,.ev 23,.ev 24,.ev 25,.ev 26,.ev 27,.ev 28,.ev 29,.ev 30,.ev 31,.ev 32,.ev 33,.ev 34,.ev 35,.ev 36,.ev 37,.ev 38]
def bU{φ ψ:Prop}(k:ψ)(h:Hid ψ→φ:=by intro k;(with_reducible apply G.d7);first|refine G.dr 218 10 zI (Hid.out k)|refine G.dr 218 17 zH (Hid.out k)|refine G.dr 218 20 zG (Hid.out k)):φ:=h ⟨k⟩
def PN{φ ψ:Prop}(k:ψ)(h:Hid ψ→φ:=by intro k;(repeat (first|refine aa ?_|intro zzz|refine bU ?_));(repeat revert zzz);exact Hid.out k):φ:=h ⟨k⟩
def zF{L R:LH}{b:Nat}{sh:Int}{x:RLX}[hp:PickObj L b tRL (aI sh x) R](s:StV)[f5:Rds L s.mad MvV aL 5 s.moves](hg:CatGood x.cat.m)(hc:x.cat.m.Ok)(hB:x.cat.B)(f0:1≤s.moves.length∧s.moves.length≤64)(hI:I64 s.rule)(hf:∀m∈s.moves,fitR x.cat.items.length m.m) :
  Tri ai 136 #[ay b,aO (aN s)] (catP x.cat::L) (rtQ (.bool (dB (fN x.cat.m.rules s.rule s.times (s.moves.map MvV.m)))) L):=by
 obtain⟨e2,e3⟩:=hI;have f4:=hB.rules;have d3:x.cat.m.rules.length=x.cat.rules.length:=by simp[CatV.m]
 refine Tri.bd ?_;repeat first|refine G.sm 2 ?_|refine bV ?_|intro _|refine bU ?_
 rename_i b3;refine G.d8 (α:=Unit) (fun _=>True) (fun _=>[(0,ay b),(3,ay b3),(5,ac (if s.rule<0 then -2 - s.rule else s.rule))]) (fun _=>obj b3 ba (aN s)::catP x.cat::L) ?_ ?_
 ·by_cases hf:s.rule<0
  ·refine PN ?_;intros;refine⟨(),trivial,?_,by exact ag⟩;rw[if_pos hf];exact av
  ·refine PN ?_;intros;refine⟨(),trivial,?_,by exact ag⟩;rw[if_neg hf];exact av
 rintro _ _;by_cases h1:0≤aS s.rule
 case neg =>
  have e:¬0≤(if s.rule<0 then -2 - s.rule else s.rule):=by
   unfold aS at h1;split<;>split at h1<;>omega
  obtain⟨q,hq⟩:∃q,(if s.rule<0 then -2 - s.rule else s.rule)=q:=⟨_,rfl⟩;rw[hq] at e;rw[hq];refine PN ?_;intros;exact KX.d7 an ag ⟨by rw[aH (fun h=>h1 h.1.1)];rfl,rfl⟩
 obtain⟨x1,x2,x3⟩:=Ja h1
 have b0:(if s.rule<0 then -2 - s.rule else s.rule)=aS s.rule:=by
  by_cases q:s.rule<0
  ·rw[if_pos q,x2 q]
  ·rw[if_neg q,x3 q]
 rw[b0];by_cases h2:aS s.rule<x.cat.rules.length
 case neg =>
  refine PN ?_;intros;exact KX.d7 an ag ⟨by rw[aH (fun h=>h2 (by have:=h.1.2;omega))];rfl,rfl⟩
 by_cases b4:1≤s.times
 case neg =>
  refine PN ?_;intros;exact KX.d7 an ag ⟨by rw[aH (fun h=>b4 h.2.1.1)];rfl,rfl⟩
 by_cases a8:s.times≤1048576
 case neg =>
  refine PN ?_;intros;exact KX.d7 an ag ⟨by rw[aH (fun h=>a8 h.2.1.2)];rfl,rfl⟩
 have b7:(aS s.rule).toNat<x.cat.rules.length:=ab;have a2:x.cat.rules[(aS s.rule).toNat]!∈x.cat.rules:=aJ b7;have b2 : x.cat.m.rules[(aS s.rule).toNat]! = x.cat.rules[(aS s.rule).toNat]!.m:=dI RuV.m b7;have a9:x.cat.rules[(aS s.rule).toNat]!.m∈x.cat.m.rules:=alStd0List_mem_map_of_mem a2;have e0:=hg.ru _ a9;refine G.ent (Ent.at (A:=catP x.cat) (catOpenR.trans (Ent.d7 (Ent.d7 Ent.drop)))) ?_;refine G.ent (Ent.at (A:=allP ruP x.cat.rules) ((Ent.e7 (f:=ruP) a2).trans (ruOpen.trans (Ent.d7 (Ent.d7 (Ent.d7 Ent.drop)))))) ?_;have e1:=hB.ru _ a2;have b6:=hc.take _ a9;have c9:=hc.give _ a9;have c8:=hc.back _ a9
 have a4:fN x.cat.m.rules s.rule s.times (s.moves.map MvV.m)↔(x.cat.rules[(aS s.rule).toNat]!.spawn=false∧¬(s.rule < -1∧x.cat.rules[(aS s.rule).toNat]!.chance ≥ x.cat.rules[(aS s.rule).toNat]!.of_)∧s.moves.length=x.cat.rules[(aS s.rule).toNat]!.take.l.length+(x.cat.rules[(aS s.rule).toNat]!.given s.rule).l.length ∧
   (∀i:Nat,i<x.cat.rules[(aS s.rule).toNat]!.take.l.length→li (s.moves.map MvV.m) s.times x.cat.rules[(aS s.rule).toNat]!.take.l[i]! (s.moves.map MvV.m)[i]!) ∧
   (∀i:Nat,i<(x.cat.rules[(aS s.rule).toNat]!.given s.rule).l.length→lp ((s.moves.map MvV.m)[x.cat.rules[(aS s.rule).toNat]!.take.l.length]!).to s.times (x.cat.rules[(aS s.rule).toNat]!.given s.rule).l[i]! (s.moves.map MvV.m)[x.cat.rules[(aS s.rule).toNat]!.take.l.length+i]!)):=by
  unfold fN;rw[b2,sF,az];exact⟨fun h=>h.2.2,fun h=>⟨⟨h1,ab⟩,⟨b4,a8⟩,h⟩⟩
 obtain⟨f1,f2,f3⟩:=e1;simp only[AmB,RuV.m] at b6 c9 c8;have e5:(x.cat.rules[(aS s.rule).toNat]!.given s.rule).l.length≤64:=by unfold RuV.given;split<;>assumption
 have d0:∀a∈(x.cat.rules[(aS s.rule).toNat]!.given s.rule).l,0≤a.2∧a.2≤1099511627776:=by unfold RuV.given;split<;>assumption
 have e4:x.cat.rules[(aS s.rule).toNat]!.chance≤x.cat.rules[(aS s.rule).toNat]!.of_:=e0.num.2.2.2.2;cases h4:x.cat.rules[(aS s.rule).toNat]!.spawn with
 | true =>
  refine PN ?_;intros;rw[h4];refine PN ?_;intros;exact KX.d7 an ag ⟨by rw[aH (fun h=>by have:=(a4.1 h).1;rw[h4] at this;cases this)];rfl,rfl⟩
 | false =>
 repeat first|refine G.sm 8 ?_|refine bV ?_|intro _|refine bU ?_
 rw[h4];repeat first|refine G.sm 8 ?_|refine bV ?_|intro _|refine bU ?_
 refine G.d8 (α:=Unit) (fun _=>True) (fun _=>[(0,ay b),(3,ay b3),(5,ac (aS s.rule)),(6,ah x.cat.rules[(aS s.rule).toNat]!.take.ad x.cat.rules[(aS s.rule).toNat]!.take.l.length x.cat.rules[(aS s.rule).toNat]!.take.cap),(7,ah (x.cat.rules[(aS s.rule).toNat]!.given s.rule).ad (x.cat.rules[(aS s.rule).toNat]!.given s.rule).l.length (x.cat.rules[(aS s.rule).toNat]!.given s.rule).cap)]) (fun _=>amS (x.cat.rules[(aS s.rule).toNat]!.given s.rule)::amS x.cat.rules[(aS s.rule).toNat]!.take::isl cX 9 x.cat.rad x.cat.rules::obj b3 ba (aN s)::L) ?_ ?_
 ·by_cases q:s.rule<0
  ·have eg:(x.cat.rules[(aS s.rule).toNat]!.given s.rule)=x.cat.rules[(aS s.rule).toNat]!.back:=by unfold RuV.given;rw[if_pos (x1.1 q)]
   rw[eg];refine PN ?_;intros;exact⟨(),trivial,av,by exact ag⟩
  ·have eg:(x.cat.rules[(aS s.rule).toNat]!.given s.rule)=x.cat.rules[(aS s.rule).toNat]!.give:=by unfold RuV.given;rw[if_neg (fun w=>q (x1.2 w))]
   rw[eg];refine PN ?_;intros;exact⟨(),trivial,av,by exact ag⟩
 rintro _ _;by_cases h5:s.rule<0∧x.cat.rules[(aS s.rule).toNat]!.chance=x.cat.rules[(aS s.rule).toNat]!.of_
 ·obtain⟨a3,b5⟩:=h5;refine PN ?_;intros;exact KX.d7 an ag ⟨by rw[aH (fun h=>(a4.1 h).2.1 ⟨x1.1 a3,ab⟩)];rfl,rfl⟩
 have c7 : ¬(s.rule < -1∧x.cat.rules[(aS s.rule).toNat]!.chance ≥ x.cat.rules[(aS s.rule).toNat]!.of_):=fun q=>h5 ⟨ab,ab⟩;by_cases h6:s.moves.length=x.cat.rules[(aS s.rule).toNat]!.take.l.length+(x.cat.rules[(aS s.rule).toNat]!.given s.rule).l.length
 case neg =>
  by_cases a3:s.rule<0
  ·have b5:¬x.cat.rules[(aS s.rule).toNat]!.chance=x.cat.rules[(aS s.rule).toNat]!.of_:=fun q=>h5 ⟨a3,q⟩;refine PN ?_;intros;exact KX.d7 an ag ⟨by rw[aH (fun h=>h6 (a4.1 h).2.2.1)];rfl,rfl⟩
  ·refine PN ?_;intros;exact KX.d7 an ag ⟨by rw[aH (fun h=>h6 (a4.1 h).2.2.1)];rfl,rfl⟩
 have a5:fN x.cat.m.rules s.rule s.times (s.moves.map MvV.m)↔qV x.cat.rules[(aS s.rule).toNat]!.take.l (x.cat.rules[(aS s.rule).toNat]!.given s.rule).l s.moves s.times s.moves.length:=by
  rw[a4,Ix hf h6];exact⟨fun h=>⟨h.2.2.2.1,h.2.2.2.2⟩,fun h=>⟨h4,c7,h6,h.1,h.2⟩⟩
 refine G.d8 (α:=Unit) (fun _=>True) (fun _=>[(0,ay b),(3,ay b3),(5,ac (aS s.rule)),(6,ah x.cat.rules[(aS s.rule).toNat]!.take.ad x.cat.rules[(aS s.rule).toNat]!.take.l.length x.cat.rules[(aS s.rule).toNat]!.take.cap),(7,ah (x.cat.rules[(aS s.rule).toNat]!.given s.rule).ad (x.cat.rules[(aS s.rule).toNat]!.given s.rule).l.length (x.cat.rules[(aS s.rule).toNat]!.given s.rule).cap)]) (fun _=>amS (x.cat.rules[(aS s.rule).toNat]!.given s.rule)::amS x.cat.rules[(aS s.rule).toNat]!.take::isl cX 9 x.cat.rad x.cat.rules::obj b3 ba (aN s)::L) ?_ ?_
 ·by_cases a3:s.rule<0
  ·have b5:¬x.cat.rules[(aS s.rule).toNat]!.chance=x.cat.rules[(aS s.rule).toNat]!.of_:=fun q=>h5 ⟨a3,q⟩;refine PN ?_;intros;exact⟨(),trivial,av,by exact ag⟩
  ·refine PN ?_;intros;exact⟨(),trivial,av,by exact ag⟩
 rintro _ _;have b8:((s.moves.length:Int) - 1).toNat=s.moves.length - 1:=ab;have d2 : ((s.moves.length:Int) - 1).toNat<s.moves.length:=ab;refine PN ?_;intros;refine G.loop (α:=Nat) (fun k=>k≤s.moves.length∧qV x.cat.rules[(aS s.rule).toNat]!.take.l (x.cat.rules[(aS s.rule).toNat]!.given s.rule).l s.moves s.times k) (fun k=>[(0,ay b),(3,ay b3),(5,ac (aS s.rule)),(6,ah x.cat.rules[(aS s.rule).toNat]!.take.ad x.cat.rules[(aS s.rule).toNat]!.take.l.length x.cat.rules[(aS s.rule).toNat]!.take.cap),(7,ah (x.cat.rules[(aS s.rule).toNat]!.given s.rule).ad (x.cat.rules[(aS s.rule).toNat]!.given s.rule).l.length (x.cat.rules[(aS s.rule).toNat]!.given s.rule).cap),(8,ac (k:Int))]) (fun _=>amS (x.cat.rules[(aS s.rule).toNat]!.given s.rule)::amS x.cat.rules[(aS s.rule).toNat]!.take::isl cX 9 x.cat.rad x.cat.rules::obj b3 ba (aN s)::L) (fun k=>s.moves.length - k) 0 ⟨ax _,fun j hj=>absurd hj (cj j)⟩ av (Ent.refl _) ?_;rintro k ⟨hk,c6⟩;by_cases d4:k<s.moves.length
 case neg =>
  obtain rfl:k=s.moves.length:=ab;refine PN ?_;intros;exact KX.d7 an ag ⟨by rw[aU (a5.2 c6)];rfl,rfl⟩
 have a6:(k:Int).toNat=k:=aC k;have d5 : (k:Int).toNat<s.moves.length:=ab;have c0:¬((k<x.cat.rules[(aS s.rule).toNat]!.take.l.length→oe s.moves s.times x.cat.rules[(aS s.rule).toNat]!.take.l[k]! s.moves[k]!)∧(x.cat.rules[(aS s.rule).toNat]!.take.l.length≤k→oh s.moves s.times (x.cat.rules[(aS s.rule).toNat]!.given s.rule).l[k - x.cat.rules[(aS s.rule).toNat]!.take.l.length]! s.moves[k]!))→dB (fN x.cat.m.rules s.rule s.times (s.moves.map MvV.m))=false:=fun hn=>aH (fun q=>hn (a5.1 q k d4));have a1:((k<x.cat.rules[(aS s.rule).toNat]!.take.l.length→oe s.moves s.times x.cat.rules[(aS s.rule).toNat]!.take.l[k]! s.moves[k]!)∧(x.cat.rules[(aS s.rule).toNat]!.take.l.length≤k→oh s.moves s.times (x.cat.rules[(aS s.rule).toNat]!.given s.rule).l[k - x.cat.rules[(aS s.rule).toNat]!.take.l.length]! s.moves[k]!))→qV x.cat.rules[(aS s.rule).toNat]!.take.l (x.cat.rules[(aS s.rule).toNat]!.given s.rule).l s.moves s.times (k+1):=fun h=>Hf c6 h;repeat first|refine G.sm 16 ?_|refine bV ?_|intro _|refine bU ?_
 rename_i b9;rw[a6];by_cases ht:k<x.cat.rules[(aS s.rule).toNat]!.take.l.length
 ·have a7:=b6 _ (aJ ht)
  have d6:0≤x.cat.rules[(aS s.rule).toNat]!.take.l[(k:Int).toNat]!.2*s.times∧x.cat.rules[(aS s.rule).toNat]!.take.l[(k:Int).toNat]!.2*s.times≤1099511627776*1048576:=by
   rw[a6];exact⟨dH a7.1 ab,fF a7.2 a8 ab ae⟩
  have a0 : ¬oe s.moves s.times x.cat.rules[(aS s.rule).toNat]!.take.l[k]! s.moves[k]!→dB (fN x.cat.m.rules s.rule s.times (s.moves.map MvV.m))=false:=fun q=>c0 (fun w=>q (w.1 ht));have e6:(k:Int).toNat<x.cat.rules[(aS s.rule).toNat]!.take.l.length:=ab;by_cases c1:s.moves[k]!.m.frm=s.moves[(0:Int).toNat]!.m.frm
  case neg =>
   refine PN ?_;intros;exact KX.d7 an ag ⟨by rw[a0 (fun q=>c1 q.1)];rfl,rfl⟩
  by_cases c2:1≤s.moves[k]!.m.frm
  case neg =>
   refine PN ?_;intros;exact KX.d7 an ag ⟨by rw[a0 (fun q=>c2 q.2.1)];rfl,rfl⟩
  by_cases c3:s.moves[k]!.m.to=0
  case neg =>
   refine PN ?_;intros;exact KX.d7 an ag ⟨by rw[a0 (fun q=>c3 q.2.2.1)];rfl,rfl⟩
  by_cases c4:s.moves[k]!.m.item=x.cat.rules[(aS s.rule).toNat]!.take.l[(k:Int).toNat]!.1
  case neg =>
   refine PN ?_;intros;exact KX.d7 an ag ⟨by rw[a0 (fun q=>c4 (by rw[a6];exact q.2.2.2.1))];rfl,rfl⟩
  by_cases c5:s.moves[k]!.m.n=x.cat.rules[(aS s.rule).toNat]!.take.l[(k:Int).toNat]!.2*s.times
  case neg =>
   refine PN ?_;intros;exact KX.d7 an ag ⟨by rw[a0 (fun q=>c5 (by rw[a6];exact q.2.2.2.2))];rfl,rfl⟩
  refine PN ?_;intros;rw[a6] at c4 c5;refine⟨k+1,⟨ab,a1 ⟨fun _=>⟨c1,c2,c3,c4,c5⟩,fun q=>absurd q ab⟩⟩,ab,?_,by exact ag⟩;rw[aY k];exact av
 ·have b1:((k:Int) - (x.cat.rules[(aS s.rule).toNat]!.take.l.length:Int)).toNat=k - x.cat.rules[(aS s.rule).toNat]!.take.l.length:=ab;have d1:((k:Int) - (x.cat.rules[(aS s.rule).toNat]!.take.l.length:Int)).toNat<(x.cat.rules[(aS s.rule).toNat]!.given s.rule).l.length:=ab;have a7:=d0 _ (aJ d1);have d6:0≤(x.cat.rules[(aS s.rule).toNat]!.given s.rule).l[((k:Int) - (x.cat.rules[(aS s.rule).toNat]!.take.l.length:Int)).toNat]!.2*s.times∧(x.cat.rules[(aS s.rule).toNat]!.given s.rule).l[((k:Int) - (x.cat.rules[(aS s.rule).toNat]!.take.l.length:Int)).toNat]!.2*s.times≤1099511627776*1048576:=⟨dH a7.1 ab,fF a7.2 a8 ab ae⟩;have a0 : ¬oh s.moves s.times (x.cat.rules[(aS s.rule).toNat]!.given s.rule).l[k - x.cat.rules[(aS s.rule).toNat]!.take.l.length]! s.moves[k]!→dB (fN x.cat.m.rules s.rule s.times (s.moves.map MvV.m))=false:=fun q=>c0 (fun w=>q (w.2 ab));by_cases c1:s.moves[k]!.m.frm=0
  case neg =>
   refine PN ?_;intros;exact KX.d7 an ag ⟨by rw[a0 (fun q=>c1 q.1)];rfl,rfl⟩
  by_cases c2:1≤s.moves[k]!.m.to
  case neg =>
   refine PN ?_;intros;exact KX.d7 an ag ⟨by rw[a0 (fun q=>c2 q.2.1)];rfl,rfl⟩
  by_cases c3:s.moves[k]!.m.to=s.moves[((s.moves.length:Int) - 1).toNat]!.m.to
  case neg =>
   refine PN ?_;intros;exact KX.d7 an ag ⟨by rw[a0 (fun q=>c3 (by rw[b8];exact q.2.2.1))];rfl,rfl⟩
  by_cases c4:s.moves[k]!.m.item=(x.cat.rules[(aS s.rule).toNat]!.given s.rule).l[((k:Int) - (x.cat.rules[(aS s.rule).toNat]!.take.l.length:Int)).toNat]!.1
  case neg =>
   refine PN ?_;intros;exact KX.d7 an ag ⟨by rw[a0 (fun q=>c4 (by rw[b1];exact q.2.2.2.1))];rfl,rfl⟩
  by_cases c5:s.moves[k]!.m.n=(x.cat.rules[(aS s.rule).toNat]!.given s.rule).l[((k:Int) - (x.cat.rules[(aS s.rule).toNat]!.take.l.length:Int)).toNat]!.2*s.times
  case neg =>
   refine PN ?_;intros;exact KX.d7 an ag ⟨by rw[a0 (fun q=>c5 (by rw[b1];exact q.2.2.2.2))];rfl,rfl⟩
  refine PN ?_;intros;rw[b1] at c4 c5;rw[b8] at c3;refine⟨k+1,⟨ab,a1 ⟨fun q=>absurd q ht,fun _=>⟨c1,c2,c3,c4,c5⟩⟩⟩,ab,?_,by exact ag⟩;rw[aY k];exact av
def rnow(x:RLX):Int:=(x.steps.getLast?.map (·.tick)).getD 0
def oo(ps:LL)(n:Int):Prop:=dQ ps∧lsum ps=n∧lsum (setL ps)=n
instance (ps:LL)(n:Int):Decidable (oo ps n):=by unfold oo;infer_instance
def rk(k:Nat)(m:MvM):Prop:=(0≤m.item∧m.item<k)∧(1≤m.n∧m.n≤1099511627776)∧m.frm≠m.to∧(0≤m.frm∧0≤m.to∧m.frm≤1073741824∧m.to≤1073741824)
def jx(k:Nat)(st:Bool)(m:MvM):Prop:=rk k m∧(if st=true then oo m.parts m.n else m.parts.length=0)
instance (k:Nat)(st:Bool)(m:MvM):Decidable (jx k st m):=by unfold jx rk;infer_instance
def moveP_fitR{k:Nat}{m:MvM}:jx k false m↔fitR k m:=by
 unfold jx fitR rk;rw[if_neg ae];constructor
 ·rintro⟨⟨h1,h2,h3,h4⟩,h5⟩;exact⟨h1,h2,h3,h4,h5⟩
 ·rintro⟨h1,h2,h3,h4,h5⟩;exact⟨⟨h1,h2,h3,h4⟩,h5⟩
abbrev Dv:=aH4 [.ev 17,.ev 18,.ev 19,.ev 20,.ev 21,.ev 22,.ev 23,.ev 24,.ev 25,.ev 26,.ev 27,.ev 28,.ev 29,.ev 30,.ev 31,.ev 32,.ev 33,.ev 34,.ev 35,.ev 36,.ev 37,.ev 38,.ev 39,.ev 40,.ev 41,.ev 42,.ev 43,.ev 44,.ev 45,.ev 46,.ev 47,.ev 48,.ev 49,.ev 50]
abbrev Du:=aG9 [.ev 5,.ev 6,.ef 4,.ev 7,.ev 8,.ev 9,.ev 10,.ev 11,.ev 14,.ev 15,.ef 12,.ef 13,.ev 16,.ev 17,.ev 18]
def Qq{φ ψ:Prop}(k:ψ)(h:Hid ψ→φ:=by intro k;(repeat (first|refine aa ?_|intro zzz|refine G.dr 86 1 Dv ?_|refine G.dr 86 6 Du ?_));(repeat revert zzz);exact Hid.out k):φ:=h ⟨k⟩
def zB{L R:LH}{b:Nat}{sh:Int}{x:RLX}[hp:PickObj L b tRL (aI sh x) R](m:MvV)(st:Bool)[hr:Rds L m.pad Lot aj 3 m.m.parts](hm:m.m.parts.length≤9223372036854775807) :
  Tri ai 135 #[ay b,aO (aL m),.bool st] L (rtQ (.bool (dB (jx x.cat.items.length st m.m))) L):=by
 cases st with
 | false =>
  refine(CL (b:=b) (sh:=sh) (x:=x) m).mono ?_;rintro _ _⟨rfl,rfl⟩;refine⟨?_,rfl⟩;by_cases h:fitR x.cat.items.length m.m
  ·rw[aU h,aU (moveP_fitR.2 h)]
  ·rw[aH h,aH (fun q=>h (moveP_fitR.1 q))]
 | true =>
  obtain⟨⟨frm,to,item,n,parts⟩,pad,pcap⟩:=m;dsimp only at hr hm;have a0:∀{p:Prop},¬p→(jx x.cat.items.length true ⟨frm,to,item,n,parts⟩→p)→dB (jx x.cat.items.length true ⟨frm,to,item,n,parts⟩)=false:=fun h q=>aH (fun r=>h (q r));refine Tri.bd (args:=[ay b,aO (aL ⟨⟨frm,to,item,n,parts⟩,pad,pcap⟩),.bool true]) ?_;simp only[aL];by_cases h1:0≤item
  case neg =>
   refine Qq ?_;intros;exact KX.d7 an ag ⟨by rw[a0 h1 (fun h=>h.1.1.1)];rfl,rfl⟩
  by_cases h2:item<x.cat.items.length
  case neg =>
   refine Qq ?_;intros;exact KX.d7 an ag ⟨by rw[a0 h2 (fun h=>h.1.1.2)];rfl,rfl⟩
  by_cases h3:1≤n
  case neg =>
   refine Qq ?_;intros;exact KX.d7 an ag ⟨by rw[a0 h3 (fun h=>h.1.2.1.1)];rfl,rfl⟩
  by_cases h4:n≤1099511627776
  case neg =>
   refine Qq ?_;intros;exact KX.d7 an ag ⟨by rw[a0 h4 (fun h=>h.1.2.1.2)];rfl,rfl⟩
  by_cases h5:frm=to
  case pos =>
   refine Qq ?_;intros;exact KX.d7 an ag ⟨by rw[a0 (fun q=>q h5) (fun h=>h.1.2.2.1)];rfl,rfl⟩
  by_cases h6:0≤frm
  case neg =>
   refine Qq ?_;intros;exact KX.d7 an ag ⟨by rw[a0 h6 (fun h=>h.1.2.2.2.1)];rfl,rfl⟩
  by_cases h7:0≤to
  case neg =>
   refine Qq ?_;intros;exact KX.d7 an ag ⟨by rw[a0 h7 (fun h=>h.1.2.2.2.2.1)];rfl,rfl⟩
  by_cases h8:frm≤1073741824
  case neg =>
   refine Qq ?_;intros;exact KX.d7 an ag ⟨by rw[a0 h8 (fun h=>h.1.2.2.2.2.2.1)];rfl,rfl⟩
  by_cases h9:to≤1073741824
  case neg =>
   refine Qq ?_;intros;exact KX.d7 an ag ⟨by rw[a0 h9 (fun h=>h.1.2.2.2.2.2.2)];rfl,rfl⟩
  have a1:∀{p:Prop},¬p→(oo parts n→p)→dB (jx x.cat.items.length true ⟨frm,to,item,n,parts⟩)=false:=fun h q=>a0 h (fun r=>q (by have:=r.2;rwa [if_pos rfl] at this));refine Qq ?_;intros;refine GO.cr (iJ pad parts.length pcap parts rfl hm) ?_;by_cases hv:dQ parts
  case neg =>
   rw[aH hv];refine Qq ?_;intros;exact KX.d7 an ag ⟨by rw[a1 hv (fun q=>q.1)];rfl,rfl⟩
  rw[aU hv];have a2:=lD hv.1;have a3:=hv.2;refine Qq ?_;intros;refine GPW.cr (jD pad parts.length pcap parts rfl hv.2 hv.1) ?_;by_cases hs:lsum parts=n
  case neg =>
   refine Qq ?_;intros;exact KX.d7 an ag ⟨by rw[a1 hs (fun q=>q.2.1)];rfl,rfl⟩
  refine Qq ?_;intros;refine GPW.ca (rz pad parts.length pcap parts rfl hv) ?_;rintro _ _⟨ad2,c2,rfl,rfl⟩;refine Qq ?_;intros;refine GPW.cr (jD ad2 (setL parts).length c2 (setL parts) rfl ab a2.2) ?_;refine Qq ?_;intros;refine KX.d7 an ag ⟨?_,rfl⟩;by_cases ht:lsum (setL parts)=n
  ·rw[aU ht,aU (show jx x.cat.items.length true ⟨frm,to,item,n,parts⟩ from⟨⟨⟨h1,h2⟩,⟨h3,h4⟩,h5,⟨h6,h7,h8,h9⟩⟩,by rw[if_pos rfl];exact⟨hv,hs,ht⟩⟩)];rfl
  ·rw[aH ht,a1 ht (fun q=>q.2.2)];rfl
def gR(k:Int):Bool:=dB (k=5∨k=7∨k=9)
def wd{L:LH}(k:Int):Tri ai 134 #[ac k] L (rtQ (.bool (gR k)) L):=by
 unfold gR;refine Tri.bd ?_;by_cases h5:k=5
 ·refine JM ?_;intros;exact KX.d7 an (Ent.refl _) ⟨by rw[aU (.inl h5)];rfl,rfl⟩
 by_cases h7:k=7
 ·refine JM ?_;intros;exact KX.d7 an (Ent.refl _) ⟨by rw[aU (.inr (.inl h7))];rfl,rfl⟩
 refine JM ?_;intros;refine KX.d7 an (Ent.refl _) ⟨?_,rfl⟩;by_cases h9:k=9
 ·rw[aU h9,aU (.inr (.inr h9))];rfl
 ·rw[aH h9,aH ab];rfl
def jl(k:Int)(m:MvM):Prop:=if k=0∨k=5 then m.frm=0 else if k=1∨k=6 then m.to=0 else if k=7 then 0<m.frm else if k=9 then 0<m.to else 0<m.frm∧0<m.to
instance (k:Int)(m:MvM):Decidable (jl k m):=by unfold jl;infer_instance
def zD{L:LH}(k:Int)(m:MvV):Tri ai 137 #[ac k,aO (aL m)] L (rtQ (.bool (dB (jl k m.m))) L):=by
 obtain⟨⟨frm,to,item,n,parts⟩,pad,pcap⟩:=m;refine Tri.bd (args:=[ac k,aO (aL ⟨⟨frm,to,item,n,parts⟩,pad,pcap⟩)]) ?_;simp only[aL];by_cases h0:k=0
 ·subst h0;refine JM ?_;intros;exact KX.en ⟨rfl,rfl⟩
 by_cases h5:k=5
 ·subst h5;refine JM ?_;intros;exact KX.en ⟨rfl,rfl⟩
 by_cases h1:k=1
 ·subst h1;refine JM ?_;intros;exact KX.en ⟨rfl,rfl⟩
 by_cases h6:k=6
 ·subst h6;refine JM ?_;intros;exact KX.en ⟨rfl,rfl⟩
 by_cases h7:k=7
 ·subst h7;refine JM ?_;intros;exact KX.en ⟨rfl,rfl⟩
 by_cases h9:k=9
 ·subst h9;refine JM ?_;intros;exact KX.en ⟨rfl,rfl⟩
 have e:jl k ⟨frm,to,item,n,parts⟩↔0<frm∧0<to:=by
  unfold jl;rw[if_neg ab,if_neg ab,if_neg h7,if_neg h9]
 by_cases h7:0<frm
 ·refine JM ?_;intros;refine KX.d7 an ag ⟨?_,rfl⟩;by_cases h8:0<to
  ·rw[aU h8,aU (e.2 ⟨h7,h8⟩)];rfl
  ·rw[aH h8,aH (fun q=>h8 (e.1 q).2)];rfl
 ·refine JM ?_;intros;refine KX.d7 an ag ⟨?_,rfl⟩;rw[aH (fun q=>h7 (e.1 q).1)];rfl
def gS(s:StM):Prop:=s.rule = -1∧(1≤s.times∧s.times≤1048576)∧s.moves.length=2∧s.moves[0]!.to=0∧s.moves[1]!.frm=0∧s.moves[1]!.to=s.moves[0]!.frm∧s.moves[0]!.n % s.times=0∧s.moves[1]!.n % s.times=0
def lh(rules:List RuM)(s:StM):Prop:=if s.kind=4 then fN rules s.rule s.times s.moves else if s.kind=10 then gS s else(∀m∈s.moves,jl s.kind m)∧s.rule = -1∧s.times=0
def fL(c:CatM)(now:Int)(s:StM):Prop :=
 (0≤s.kind∧s.kind≤10)∧accP s.actor∧(now≤s.tick∧s.tick≤1099511627776)∧(1≤s.moves.length∧s.moves.length≤64)∧(∀m∈s.moves,jx c.items.length (gR s.kind) m)∧lh c.rules s
noncomputable instance (a b c):Decidable (fL a b c):=Classical.propDecidable _
def od{s:StV}{i:Nat}(h:i<s.moves.length){L:LH}:Ent (stP s::L) (isl aj 3 s.moves[i]!.pad s.moves[i]!.m.parts::stP s::L):=Ent.e7 (f:=mvP) (aJ h)
abbrev Fz:=aH4 [.ev 17,.ev 18,.ev 19,.ev 20,.ev 21,.ef 22,.ev 23,.ev 24,.ev 25,.ev 26,.ev 27,.ev 28,.ev 29,.ev 30,.ev 31,.ev 32,.ev 33,.ev 34,.ev 35,.ev 36,.ev 37,.ev 38,.ev 39,.ev 40,.ev 41]
abbrev Dt:=aH0 [.ev 6,.ef 7,.ev 8]
def QG{φ ψ:Prop}(k:ψ)(h:Hid ψ→φ:=by intro k;(repeat (first|refine aa ?_|intro zzz|refine G.dr 166 1 Fz ?_|refine G.dr 166 21 Dt ?_));(repeat revert zzz);exact Hid.out k):φ:=h ⟨k⟩
def zy{L R:LH}{b:Nat}{sh:Int}{x:RLX}[hp:PickObj L b tRL (aI sh x) R][hr:Rds L x.tad StV aN 7 x.steps](s:StV)[d6:Rds L s.mad MvV aL 5 s.moves](hg:CatGood x.cat.m)(hc:x.cat.m.Ok)(hB:x.cat.B)(e2:x.steps.length≤65536)(c8:s.moves.length≤1000000)(c5:∀m∈s.moves,m.m.parts.length≤9223372036854775807)(hI:I64 s.rule) :
  Tri ai 92 #[ay b,aO (aN s)] (catP x.cat::stP s::L) (rtQ (.bool (dB (fL x.cat.m (rnow x) s.m))) (catP x.cat::stP s::L)):=by
 have b9:x.cat.m.items.length=x.cat.items.length:=rfl;have a9:s.m.moves=s.moves.map MvV.m:=rfl;have a1:∀{p:Prop},¬p→(fL x.cat.m (rnow x) s.m→p)→dB (fL x.cat.m (rnow x) s.m)=false:=fun h q=>aH (fun r=>h (q r));have hl:s.m.moves.length=s.moves.length:=by rw[a9,az]
 have b8:∀{i:Nat},i<s.moves.length→s.m.moves[i]! = s.moves[i]!.m:=fun hi=>dI MvV.m hi;refine Tri.bd ?_;by_cases b6:0≤s.kind
 case neg =>
  refine QG ?_;intros;exact KX.d7 an ag ⟨by rw[a1 b6 (fun h=>h.1.1)];rfl,rfl⟩
 by_cases b7:s.kind≤10
 case neg =>
  refine QG ?_;intros;exact KX.d7 an ag ⟨by rw[a1 b7 (fun h=>h.1.2)];rfl,rfl⟩
 by_cases h1:0≤s.actor
 case neg =>
  refine QG ?_;intros;exact KX.d7 an ag ⟨by rw[a1 h1 (fun h=>h.2.1.1)];rfl,rfl⟩
 by_cases h2:s.actor≤1073741824
 case neg =>
  refine QG ?_;intros;exact KX.d7 an ag ⟨by rw[a1 h2 (fun h=>h.2.1.2)];rfl,rfl⟩
 refine QG ?_;intros;refine GPW.cr (CM (b:=b) (sh:=sh) (x:=x) ab) ?_;rw[show(x.steps.getLast?.map (·.tick)).getD 0=rnow x from rfl];by_cases h3:rnow x≤s.tick
 case neg =>
  refine QG ?_;intros;exact KX.d7 an ag ⟨by rw[a1 h3 (fun h=>h.2.2.1.1)];rfl,rfl⟩
 by_cases h4:s.tick≤1099511627776
 case neg =>
  refine QG ?_;intros;exact KX.d7 an ag ⟨by rw[a1 h4 (fun h=>h.2.2.1.2)];rfl,rfl⟩
 by_cases h5:1≤s.moves.length
 case neg =>
  refine QG ?_;intros;exact KX.d7 an ag ⟨by rw[a1 h5 (fun h=>by have:=h.2.2.2.1.1;omega)];rfl,rfl⟩
 by_cases h6:s.moves.length≤64
 case neg =>
  refine QG ?_;intros;exact KX.d7 an ag ⟨by rw[a1 h6 (fun h=>by have:=h.2.2.2.1.2;omega)];rfl,rfl⟩
 refine QG ?_;intros;rename_i b3;refine GO.cr (wd s.kind) ?_;refine QG ?_;intros;refine G.loop (α:=Nat) (fun i=>i≤s.moves.length∧∀j,j<i→jx x.cat.items.length (gR s.kind) s.moves[j]!.m) (fun i=>[(0,ay b),(3,ay b3),(5,.bool (gR s.kind)),(6,ac (i:Int))]) (fun _=>obj b3 ba (aN s)::catP x.cat::stP s::L) (fun i=>s.moves.length - i) 0 ⟨ax _,fun j hj=>absurd hj (cj j)⟩ av ag ?_;rintro i ⟨hi,a7⟩;by_cases b2:i<s.moves.length
 case pos =>
  have b0:(i:Int).toNat=i:=aC i;have b4 : (i:Int).toNat<s.moves.length:=ab;have c6:=c5 _ (aJ b2);refine QG ?_;intros;rw[b0];refine GO.ent (L':=isl aj 3 s.moves[i]!.pad s.moves[i]!.m.parts::obj b3 ba (aN s)::catP x.cat::stP s::L) ((Ent.at (A:=stP s) (od b2)).trans ag) ?_;refine GO.cr (zB (b:=b) (sh:=sh) (x:=x) s.moves[i]! (gR s.kind) c6) ?_;by_cases a2:jx x.cat.items.length (gR s.kind) s.moves[i]!.m
  ·rw[aU a2];refine QG ?_;intros;refine⟨i+1,⟨ab,fun j hj=>?_⟩,ab,?_,by exact ag⟩
   ·rcases cm j i with h|h
    ·exact a7 j h
    ·obtain rfl:j=i:=ab;exact a2
   ·rw[aY i];exact av
  ·rw[aH a2];refine QG ?_;intros;exact KX.d7 an ag ⟨by rw[a1 a2 (fun h=>by have h9:=h.2.2.2.2.1 s.moves[i]!.m (by rw[a9];exact alStd0List_mem_map_of_mem (aJ b2));rwa [b9] at h9)];rfl,rfl⟩
 obtain rfl:i=s.moves.length:=ab
 have a3:∀m∈s.moves,jx x.cat.items.length (gR s.kind) m.m:=fun m hm=>by
  obtain⟨j,hj,rfl⟩:=List.mem_iff_getElem.1 hm;have:=a7 j hj
  rw[getElem!_of hj] at this;exact this
 have a0:fL x.cat.m (rnow x) s.m↔lh x.cat.m.rules s.m:=by
  constructor
  ·intro h;exact h.2.2.2.2.2
  ·intro g2;refine⟨⟨b6,b7⟩,⟨h1,h2⟩,⟨h3,h4⟩,⟨ab,ab⟩,?_,g2⟩;intro m hm;rw[a9] at hm;obtain⟨u,hu,rfl⟩:=List.mem_map.1 hm;exact a3 u hu
 clear a1;by_cases b1:s.kind=4
 ·have hw:lh x.cat.m.rules s.m↔fN x.cat.m.rules s.rule s.times (s.moves.map MvV.m):=by
   unfold lh;rw[if_pos (show s.m.kind=4 from b1)];exact Iff.rfl
  have a6:∀m∈s.moves,fitR x.cat.items.length m.m:=fun m hm=>moveP_fitR.1 (by
   have h:=a3 m hm;rwa [show gR s.kind=false by unfold gR;exact aH ab] at h)
  refine QG ?_;intros;refine GO.ent (L':=catP x.cat::catP x.cat::stP s::L) (Ent.trans (B:=catP x.cat::stP s::L) ag (Ent.dup (kr x.cat).1)) ?_;refine GO.cr (zF (b:=b) (sh:=sh) (x:=x) s hg hc hB ⟨h5,h6⟩ hI a6) ?_;refine QG ?_;intros;refine KX.d7 an ag ⟨?_,rfl⟩;by_cases q:fN x.cat.m.rules s.rule s.times (s.moves.map MvV.m)
  ·rw[aU q,aU (a0.2 (hw.2 q))];rfl
  ·rw[aH q,aH (fun w=>q (hw.1 (a0.1 w)))];rfl
 by_cases a8:s.kind=10
 ·have hw:lh x.cat.m.rules s.m↔gS s.m:=by
   unfold lh;rw[if_neg (show ¬s.m.kind=4 from b1),if_pos (show s.m.kind=10 from a8)]
  have a1:∀{p:Prop},¬p→(gS s.m→p)→dB (fL x.cat.m (rnow x) s.m)=false:=fun h q=>aH (fun r=>h (q (hw.1 (a0.1 r))));by_cases c1:s.rule = -1
  case neg =>
   refine QG ?_;intros;exact KX.d7 an ag ⟨by rw[a1 c1 (fun h=>h.1)];rfl,rfl⟩
  by_cases c2:1≤s.times
  case neg =>
   refine QG ?_;intros;exact KX.d7 an ag ⟨by rw[a1 c2 (fun h=>h.2.1.1)];rfl,rfl⟩
  by_cases c3:s.times≤1048576
  case neg =>
   refine QG ?_;intros;exact KX.d7 an ag ⟨by rw[a1 c3 (fun h=>h.2.1.2)];rfl,rfl⟩
  by_cases c4:s.moves.length=2
  case neg =>
   refine QG ?_;intros;exact KX.d7 an ag ⟨by rw[a1 c4 (fun h=>by have:=h.2.2.1;omega)];rfl,rfl⟩
  have i0:(0:Int).toNat<s.moves.length:=ab;have i1:(1:Int).toNat<s.moves.length:=ab;have e0:s.m.moves[0]! = s.moves[(0:Int).toNat]!.m:=b8 i0;have e1:s.m.moves[1]! = s.moves[(1:Int).toNat]!.m:=b8 i1;have c9:=(a3 _ (aJ i0)).1.2.1;have d0:=(a3 _ (aJ i1)).1.2.1
  have a5:gS s.m↔s.moves[(0:Int).toNat]!.m.to=0∧s.moves[(1:Int).toNat]!.m.frm=0∧s.moves[(1:Int).toNat]!.m.to=s.moves[(0:Int).toNat]!.m.frm∧s.moves[(0:Int).toNat]!.m.n % s.times=0∧s.moves[(1:Int).toNat]!.m.n % s.times=0:=by
   unfold gS;rw[e0,e1];exact⟨fun h=>h.2.2.2,fun h=>⟨c1,⟨c2,c3⟩,ab,h⟩⟩
  clear a1;have a1:∀{p:Prop},¬p→(gS s.m→p)→dB (fL x.cat.m (rnow x) s.m)=false:=fun h q=>aH (fun r=>h (q (hw.1 (a0.1 r))));refine QG ?_;intros;generalize s.moves[(0:Int).toNat]! = m0 at *;generalize s.moves[(1:Int).toNat]! = m1 at *;simp only[aL];by_cases d1:m0.m.to=0
  case neg =>
   refine QG ?_;intros;exact KX.d7 an ag ⟨by rw[a1 d1 (fun h=>(a5.1 h).1)];rfl,rfl⟩
  by_cases d2:m1.m.frm=0
  case neg =>
   refine QG ?_;intros;exact KX.d7 an ag ⟨by rw[a1 d2 (fun h=>(a5.1 h).2.1)];rfl,rfl⟩
  by_cases d3:m1.m.to=m0.m.frm
  case neg =>
   refine QG ?_;intros;exact KX.d7 an ag ⟨by rw[a1 d3 (fun h=>(a5.1 h).2.2.1)];rfl,rfl⟩
  by_cases d4:m0.m.n % s.times=0
  case neg =>
   refine QG ?_;intros;exact KX.d7 an ag ⟨by rw[a1 d4 (fun h=>(a5.1 h).2.2.2.1)];rfl,rfl⟩
  refine QG ?_;intros;refine KX.d7 an ag ⟨?_,rfl⟩;by_cases d5:m1.m.n % s.times=0
  ·rw[aU d5,aU (a0.2 (hw.2 (a5.2 ⟨d1,d2,d3,d4,d5⟩)))];rfl
  ·rw[aH d5,a1 d5 (fun h=>(a5.1 h).2.2.2.2)];rfl
 have hw:lh x.cat.m.rules s.m↔(∀m∈s.m.moves,jl s.kind m)∧s.rule = -1∧s.times=0:=by
  unfold lh;rw[if_neg (show ¬s.m.kind=4 from b1),if_neg (show ¬s.m.kind=10 from a8)];exact Iff.rfl
 refine QG ?_;intros;refine G.loop (α:=Nat) (fun i=>i≤s.moves.length∧∀j,j<i→jl s.kind s.moves[j]!.m) (fun i=>[(0,ay b),(3,ay b3),(10,ac (i:Int))]) (fun _=>obj b3 ba (aN s)::catP x.cat::stP s::L) (fun i=>s.moves.length - i) 0 ⟨ax _,fun j hj=>absurd hj (cj j)⟩ av ag ?_;rintro i ⟨c7,a4⟩;by_cases b5:i<s.moves.length
 case pos =>
  have b0:(i:Int).toNat=i:=aC i;have b4 : (i:Int).toNat<s.moves.length:=ab;refine QG ?_;intros;refine GPW.cr (zD s.kind s.moves[(i:Int).toNat]!) ?_;by_cases a2:jl s.kind s.moves[(i:Int).toNat]!.m
  ·rw[aU a2];refine QG ?_;intros;rw[b0] at a2;refine⟨i+1,⟨ab,fun j hj=>?_⟩,ab,?_,by exact ag⟩
   ·rcases cm j i with h|h
    ·exact a4 j h
    ·obtain rfl:j=i:=ab;exact a2
   ·rw[aY i];exact av
  ·rw[aH a2];refine QG ?_;intros;rw[b0] at a2;exact KX.d7 an ag ⟨by rw[aH (fun h=>a2 ((hw.1 (a0.1 h)).1 _ (by rw[a9];exact alStd0List_mem_map_of_mem (aJ b5))))];rfl,rfl⟩
 obtain rfl:i=s.moves.length:=ab
 have c0:∀m∈s.m.moves,jl s.kind m:=fun m hm=>by
  rw[a9] at hm;obtain⟨u,hu,rfl⟩:=List.mem_map.1 hm;obtain⟨j,hj,rfl⟩:=List.mem_iff_getElem.1 hu;have:=a4 j hj
  rw[getElem!_of hj] at this;exact this
 by_cases h7:s.rule = -1
 ·refine QG ?_;intros;refine KX.d7 an ag ⟨?_,rfl⟩;by_cases h8:s.times=0
  ·rw[aU h8,aU (a0.2 (hw.2 ⟨c0,h7,h8⟩))];rfl
  ·rw[aH h8,aH (fun w=>h8 (hw.1 (a0.1 w)).2.2)];rfl
 ·refine QG ?_;intros;exact KX.d7 an ag ⟨by rw[aH (fun w=>h7 (hw.1 (a0.1 w)).2.1)];rfl,rfl⟩
def mixR(x:RLX)(i:Int):Bool:=x.cat.items[i.toNat]!.mixed
def ki(l:List RStk):Prop:=(l.map (fun s=>(s.acc,s.item))).Nodup
def xi{k:Int×Int}:∀{l:List RStk} {a i:Int} {t:Stk},k∈(rset l a i t).map (fun s=>(s.acc,s.item))→k=(a,i)∨k∈l.map (fun s=>(s.acc,s.item))
 | [],_,_,_,h=>.inl (List.mem_singleton.1 h)
 | s::l,a,i,t,h=>by
  unfold rset at h;split at h
  ·exact .inr h
  ·rw[bL] at h ⊢;rcases List.mem_cons.1 h with h|h
   ·exact .inr (h▸au)
   ·exact(xi h).imp id (aw _)
def pZ:∀{l:List RStk} {a i:Int} {t:Stk},ki l→ki (rset l a i t)
 | [],_,_,_,_=>by
  unfold ki rset;simp
 | s::l,a,i,t,h=>by
  unfold ki at h ⊢;rw[bL,dX] at h;unfold rset;split
  ·rw[bL,dX];exact h
  ·rename_i hn;rw[bL,dX];refine⟨fun q=>?_,pZ h.2⟩;rcases xi q with e|e
   ·simp only[Prod.mk.injEq] at e;exact hn e
   ·exact h.1 e
structure TkF (x:RLX) (m:MvM) (st:List RStk):Prop where
 lots:∀a i,(dR st a i).lots=if m.frm=0 then(dR x.stks a i).lots else upd2 (fun a i=>(dR x.stks a i).lots) m.frm m.item (eU (mixR x m.item) (dR x.stks m.frm m.item).lots m.n) a i
 sum:∀i,rsum st i=rsum x.stks i - (if m.frm≠0∧i=m.item then m.n else 0)
 ok:rOk st
 len:st.length≤x.stks.length+1
 dist:ki x.stks→ki st
def oY{l:LL}{f n:Int}(h:∀x∈l,LotOk x)(hn:1≤n):aZ l (f,0,n)=l++[(f,0,n)]:=by
 unfold aZ;rw[if_neg fi,if_neg];rintro⟨h1,h2⟩;rw[lcont_iff] at h2;have:=h _ (aJ (ab:l.length - 1<l.length))
 unfold LotOk at this;dsimp only at h2;omega
def wv(a0:Int)(f:FlV):Bool:=dB (f.m.step=a0∧f.m.to=0)
def gX(a0:Int)(l:List FlV):List Int:=(l.filter (wv a0)).map (fun f=>f.m.id)
def te(a0:Int)(l:List FlV)(f:FlV):gX a0 (l++[f])=if f.m.step=a0∧f.m.to=0 then gX a0 l++[f.m.id] else gX a0 l:=by
 unfold gX;rw[dm];by_cases h:f.m.step=a0∧f.m.to=0
 ·rw[if_pos h,gO,if_pos (by unfold wv;rw[aU h]),aW];rfl
 ·rw[if_neg h,gO,if_neg (by unfold wv;rw[aH h];decide),aW];simp
def vb(a0:Int)(l:List FlV):(gX a0 l).length≤l.length:=by
 unfold gX;rw[az];exact gc _ _
def td(a0:Int)(l:List FlV){i:Nat}(h:i<l.length):gX a0 (l.take (i+1))=if l[i]!.m.step=a0∧l[i]!.m.to=0 then gX a0 (l.take i)++[l[i]!.m.id] else gX a0 (l.take i):=by
 rw[←te];congr 1;rw[List.take_add_one,List.getElem?_eq_getElem h,getElem!_of h];rfl
structure RW (S:LedM) (y:RLX) (W:Wk):Prop where
 cat:y.cat.m=S.cat
 catB:y.cat.B
 steps:y.steps.map StV.m=S.steps
 flows:y.flows.map FlV.m=S.flows++W.flows
 lots:∀a i,(dR y.stks a i).lots=W.stk a i
 sum:∀i,rsum y.stks i=W.tot i
 ok:rOk y.stks
 len:y.stks.length≤2*y.flows.length
 dist:ki y.stks
 sunk:gX (aP S) y.flows=W.sunk
structure MvFitR (k:Nat) (m:MvM):Prop where
 item:0≤m.item∧m.item<k
 n:1≤m.n∧m.n≤1099511627776
 frm:accP m.frm
 to:accP m.to
 ne:m.frm≠m.to
 parts:m.parts.length=0
structure RF (S:LedM) (x:RLX):Prop where
 cat:x.cat.m=S.cat
 catB:x.cat.B
 steps:x.steps.map StV.m=S.steps
 flows:x.flows.map FlV.m=S.flows
 lots:∀a i,(dR x.stks a i).lots=S.stk a i
 sum:∀i,rsum x.stks i=S.tot i
 ok:rOk x.stks
 len:x.stks.length≤2*x.flows.length
 dist:ki x.stks
 fstep:∀f∈S.flows,f.step<aP S
 now:0≤S.now
def Iv{S:LedM}{x:RLX}(h:RF S x):rnow x=S.now:=by
 unfold LedM.now rnow;rw[←h.steps,List.getLast?_map,Option.map_map];rfl
def Fb{a0:Int}{l:List FlV}(h:∀f∈l,f.m.step<a0):gX a0 l=[]:=by
 unfold gX;rw[List.filter_eq_nil_iff.2,gD];intro f hf;unfold wv;rw[aH (fun q=>by have:=h f hf;omega)];decide
