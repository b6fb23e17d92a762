/- Lemmas. -/
import Derived.Test.YtommnllbflbdmaaGreatDoorLaz
set_option linter.all false
set_option maxHeartbeats 8000000
namespace Go.Proofs.YtommnllbflbdmaaGreatDoor
section
open Go.V
attribute [local irreducible] G GO GP GPW GPK Ev Ef EfR Ent CB GB V.Enters
def fitR(k:Nat)(m:MvM):Prop:=(0≤m.item∧m.item<k)∧(1≤m.n∧m.n≤1099511627776)∧m.frm≠m.to∧(0≤m.frm∧0≤m.to∧m.frm≤1073741824∧m.to≤1073741824)∧m.parts.length=0
instance (k:Nat)(m:MvM):Decidable (fitR k m):=by unfold fitR;infer_instance
abbrev Ay:List Stp:=[.ev 0,.ev 1,.ev 2,.ev 3,.ev 4,.ev 5,.ev 6,.ev 7,.ev 8,.ev 9,.ev 10,.ev 11,.ev 12,.ev 13,.ev 14,.ev 15,.ev 16,.ev 17,.ev 18,.ev 19,.ev 20,.ev 21,.ev 22,.ev 23,.ev 24,.ev 25,.ev 26,.ev 27,.ev 28,.ev 29,.ev 30,.ev 31,.ev 32,.ev 33,.ev 34,.ev 35,.ev 36,.ev 37,.ev 38,.ev 39,.ev 40,.ev 41,.ev 42,.ev 43,.ev 44,.ev 45,.ev 46,.ev 47,.ev 48,.ev 49,.ev 50]
abbrev Ax:List Stp:=[.ev 0,.ev 1,.ev 2,.ev 3,.ev 5,.ev 6,.ef 4,.ev 7,.ev 8,.ev 9,.ev 10,.ev 11,.ev 14,.ev 15,.ef 12,.ef 13,.ev 16,.ev 17,.ev 18]
theorem ez{φ ψ:Prop}(k:ψ)(h:Hid ψ→φ:=by intro k;(with_reducible apply G.d8);first|refine G.d7 (N:=86) (id:=1) Ay mixed ap (Hid.out k)|refine G.d7 (N:=86) (id:=6) Ax mixed ap (Hid.out k)):φ:=h ⟨k⟩
theorem Aq{L R:LH}{b:Nat}{sh:Int}{x:RLX}[hp:PickObj L b tRL (aK sh x) R](m:MvV) :
  Tri ah 135 #[au b,.agg (aM m).toArray,.bool false] L (fun v L'=>v=.bool (dB (fitR x.cat.items.length m.m))∧L' = L):=by
 obtain⟨⟨frm,to,item,n,parts⟩,pad,pcap⟩:=m;refine Tri.body (args:=[au b,.agg (aM ⟨⟨frm,to,item,n,parts⟩,pad,pcap⟩).toArray,.bool false]) 86 Fh Tryz.func135 rfl rfl rfl (by simp) ?_;simp only[aM];by_cases h1:0≤item
 case neg =>
  repeat first|refine aa ?_|intro _|refine ez ?_
  exact KX.d7 ai ag ⟨by rw[aF (fun h=>h1 h.1.1)];rfl,rfl⟩
 by_cases h2:item<x.cat.items.length
 case neg =>
  repeat first|refine aa ?_|intro _|refine ez ?_
  exact KX.d7 ai ag ⟨by rw[aF (fun h=>h2 h.1.2)];rfl,rfl⟩
 by_cases h3:1≤n
 case neg =>
  repeat first|refine aa ?_|intro _|refine ez ?_
  exact KX.d7 ai ag ⟨by rw[aF (fun h=>h3 h.2.1.1)];rfl,rfl⟩
 by_cases h4:n≤1099511627776
 case neg =>
  repeat first|refine aa ?_|intro _|refine ez ?_
  exact KX.d7 ai ag ⟨by rw[aF (fun h=>h4 h.2.1.2)];rfl,rfl⟩
 by_cases h5:frm=to
 case pos =>
  repeat first|refine aa ?_|intro _|refine ez ?_
  exact KX.d7 ai ag ⟨by rw[aF (fun h=>h.2.2.1 h5)];rfl,rfl⟩
 by_cases h6:0≤frm
 case neg =>
  repeat first|refine aa ?_|intro _|refine ez ?_
  exact KX.d7 ai ag ⟨by rw[aF (fun h=>h6 h.2.2.2.1.1)];rfl,rfl⟩
 by_cases h7:0≤to
 case neg =>
  repeat first|refine aa ?_|intro _|refine ez ?_
  exact KX.d7 ai ag ⟨by rw[aF (fun h=>h7 h.2.2.2.1.2.1)];rfl,rfl⟩
 by_cases h8:frm≤1073741824
 case neg =>
  repeat first|refine aa ?_|intro _|refine ez ?_
  exact KX.d7 ai ag ⟨by rw[aF (fun h=>h8 h.2.2.2.1.2.2.1)];rfl,rfl⟩
 by_cases h9:to≤1073741824
 case neg =>
  repeat first|refine aa ?_|intro _|refine ez ?_
  exact KX.d7 ai ag ⟨by rw[aF (fun h=>h9 h.2.2.2.1.2.2.2)];rfl,rfl⟩
 repeat first|refine aa ?_|intro _|refine ez ?_
 refine KX.d7 ai ag ⟨?_,rfl⟩;by_cases h10:parts.length=0
 ·rw[aU (show((parts.length:Nat):Int)=0 by omega),aU (show fitR x.cat.items.length ⟨frm,to,item,n,parts⟩ from⟨⟨h1,h2⟩,⟨h3,h4⟩,h5,⟨h6,h7,h8,h9⟩,h10⟩)];rfl
 ·rw[aF (show ¬((parts.length:Nat):Int)=0 by omega),aF (fun h=>h10 h.2.2.2.2)];rfl
def nb(ms:List MvV)(times:Int)(a:Int×Int)(m:MvV):Prop:=m.m.frm=ms[0]!.m.frm∧1≤m.m.frm∧m.m.to=0∧m.m.item=a.1∧m.m.n=a.2*times
def nh(ms:List MvV)(times:Int)(a:Int×Int)(m:MvV):Prop:=m.m.frm=0∧1≤m.m.to∧m.m.to=ms[ms.length - 1]!.m.to∧m.m.item=a.1∧m.m.n=a.2*times
def pI(tk gv:List (Int×Int))(ms:List MvV)(times:Int)(k:Nat):Prop:=∀j,j<k→(j<tk.length→nb ms times tk[j]! ms[j]!)∧(tk.length≤j→nh ms times gv[j - tk.length]! ms[j]!)
theorem FG{c:Nat}{tk gv:List (Int×Int)}{ms:List MvV}{times:Int}(hf:∀m∈ms,fitR c m.m)(hl:ms.length=tk.length+gv.length) :
  pI tk gv ms times ms.length↔(∀i:Nat,i<tk.length→ky (ms.map MvV.m) times tk[i]! (ms.map MvV.m)[i]!)∧(∀i:Nat,i<gv.length→kD ((ms.map MvV.m)[tk.length]!).to times gv[i]! (ms.map MvV.m)[tk.length+i]!):=by
 have hg:∀i,i<ms.length→(ms.map MvV.m)[i]! = ms[i]!.m:=fun i hi=>jl ms hi;constructor
 ·intro h;refine⟨fun i hi=>?_,fun i hi=>?_⟩
  ·rw[hg i ac];obtain⟨h1,h2,h3,h4,h5⟩:=(h i ac).1 hi;refine⟨?_,h3,h4,h5⟩;rw[hg 0 ac];exact h1
  ·rw[hg (tk.length+i) ac,hg tk.length ac];obtain⟨h1,h2,h3,h4,h5⟩:=(h (tk.length+i) ac).2 ac;obtain⟨_,_,g3,_,_⟩:=(h tk.length ac).2 (aB _);rw[show tk.length+i - tk.length=i by omega] at h4 h5;exact⟨h1,h3.trans g3.symm,h4,h5⟩
 ·rintro⟨h1,h2⟩ j hj;refine⟨fun hi=>?_,fun hi=>?_⟩
  ·obtain⟨g1,g2,g3,g4⟩:=h1 j hi;rw[hg j hj] at g1 g2 g3 g4;rw[hg 0 ac] at g1;have hm:=hf _ (aI hj);obtain⟨_,_,f3,⟨f4,_⟩,_⟩:=hm;exact⟨g1,ac,g2,g3,g4⟩
  ·obtain⟨g1,g2,g3,g4⟩:=h2 (j - tk.length) ac;rw[show tk.length+(j - tk.length)=j by omega,hg j hj] at g1 g2 g3 g4;rw[hg tk.length ac] at g2;obtain⟨q1,q2,q3,q4⟩:=h2 (ms.length - 1 - tk.length) ac;rw[show tk.length+(ms.length - 1 - tk.length)=ms.length - 1 by omega,hg (ms.length - 1) ac,hg tk.length ac] at q2;have hm:=hf _ (aI hj);obtain⟨_,_,f3,⟨_,f5,_⟩,_⟩:=hm;exact⟨g1,ac,g2.trans q2.symm,g3,g4⟩
theorem Eg{tk gv:List (Int×Int)}{ms:List MvV}{times:Int}{k:Nat}(h:pI tk gv ms times k)(hk:(k<tk.length→nb ms times tk[k]! ms[k]!)∧(tk.length≤k→nh ms times gv[k - tk.length]! ms[k]!)):pI tk gv ms times (k+1):=fun j hj=>by
 rcases cg j k with h1|h1
 ·exact h j h1
 ·obtain rfl:j=k:=ac;exact hk
theorem Gp{r:Int}(h0:0≤aN r):(r<0↔r < -1)∧(r<0→aN r = -2 - r)∧(¬r<0→aN r=r):=by
 unfold aN at *;refine⟨?_,fun h=>?_,fun h=>?_⟩
 ·split at h0<;>omega
 ·split at h0
  ·rw[if_pos ac]
  ·omega
 ·rw[if_neg ac]
abbrev xA:List Stp:=[.ev 0,.ev 1,.ev 2,.ev 3,.ev 4,.ev 5,.ev 6,.ev 7,.ev 8,.ev 9,.ev 10,.ev 11,.ev 12,.ev 13,.ev 14,.ev 15,.ev 16,.ev 17,.ev 18,.ev 19,.ev 20,.ev 21,.ev 22,.ev 23,.ev 24,.ev 25,.ev 26,.ev 27,.ev 28,.ev 29,.ev 30,.ev 31,.ev 32,.ev 33,.ev 34]
abbrev xz:List Stp:=[.ev 0,.ev 1,.ev 2,.ev 3,.ev 4,.ev 5,.ev 6,.ev 7,.ev 8,.ev 9,.ev 10,.ev 11,.ev 12,.ev 13,.ev 14,.ev 15,.ev 16,.ev 17,.ev 18,.ev 19,.ev 20,.ev 21,.ev 22,.ev 23,.ev 24,.ev 25,.ev 26,.ev 27,.ev 28,.ev 29,.ev 30,.ev 31,.ev 32,.ev 33,.ev 34,.ev 35,.ev 36,.ev 37,.ev 38,.ev 39,.ev 40]
abbrev xy:List Stp:=[.ev 0,.ev 1,.ev 2,.ev 3,.ev 4,.ev 5,.ev 6,.ev 7,.ev 8,.ev 9,.ev 10,.ev 11,.ev 12,.ev 13,.ev 14,.ev 15,.ev 16,.ev 17,.ev 18,.ev 19,.ev 20,.ev 21,.ev 22,.ev 23,.ev 24,.ev 25,.ev 26,.ev 27,.ev 28,.ev 29,.ev 30,.ev 31,.ev 32,.ev 33,.ev 34,.ev 35,.ev 36,.ev 37,.ev 38]
theorem bH{φ ψ:Prop}(k:ψ)(h:Hid ψ→φ:=by intro k;(with_reducible apply G.d8);first|refine G.d7 (N:=218) (id:=10) xA mixed ap (Hid.out k)|refine G.d7 (N:=218) (id:=17) xz mixed ap (Hid.out k)|refine G.d7 (N:=218) (id:=20) xy mixed ap (Hid.out k)):φ:=h ⟨k⟩
theorem xx{L R:LH}{b:Nat}{sh:Int}{x:RLX}[hp:PickObj L b tRL (aK sh x) R](s:StV)[hrm:Rds L s.mad MvV aM 5 s.moves](hg:CatGood x.cat.m)(hc:x.cat.m.Ok)(hB:x.cat.B)(hms:1≤s.moves.length∧s.moves.length≤64)(hI:I64 s.rule)(hf:∀m∈s.moves,fitR x.cat.items.length m.m) :
  Tri ah 136 #[au b,.agg (aJ s).toArray] (catP x.cat::L) (fun v L'=>v=.bool (dB (fw x.cat.m.rules s.rule s.times (s.moves.map MvV.m)))∧L' = L):=by
 obtain⟨hI1,hI2⟩:=hI;have hrl:=hB.rules;have hlen:x.cat.m.rules.length=x.cat.rules.length:=by simp[CatV.m]
 refine Tri.body (args:=[au b,.agg (aJ s).toArray]) 218 JL Tryz.func136 rfl rfl rfl (by simp) ?_;repeat first|((fail_if_success (with_reducible refine G.e7 2 ?_));(with_reducible apply G.seq))|refine bB ?_|intro _|refine bH ?_
 rename_i b3;refine G.d9 (α:=Unit) (fun _=>True) (fun _=>[(0,au b),(3,au b3),(5,ab (if s.rule<0 then -2 - s.rule else s.rule))]) (fun _=>obj b3 bh (aJ s)::catP x.cat::L) ?_ ?_
 ·by_cases hf:s.rule<0
  ·repeat first|refine aa ?_|intro _|refine bH ?_
   refine⟨(),trivial,?_,by exact ag⟩;rw[if_pos hf];exact aj
  ·repeat first|refine aa ?_|intro _|refine bH ?_
   refine⟨(),trivial,?_,by exact ag⟩;rw[if_neg hf];exact aj
 rintro _ _;by_cases h1:0≤aN s.rule
 case neg =>
  have e:¬0≤(if s.rule<0 then -2 - s.rule else s.rule):=by
   unfold aN at h1;split<;>split at h1<;>omega
  obtain⟨q,hq⟩:∃q,(if s.rule<0 then -2 - s.rule else s.rule)=q:=⟨_,rfl⟩;rw[hq] at e;rw[hq];repeat first|refine aa ?_|intro _|refine bH ?_
  exact KX.d7 ai ag ⟨by rw[aF (fun h=>h1 h.1.1)];rfl,rfl⟩
 obtain⟨x1,x2,x3⟩:=Gp h1
 have hix0:(if s.rule<0 then -2 - s.rule else s.rule)=aN s.rule:=by
  by_cases q:s.rule<0
  ·rw[if_pos q,x2 q]
  ·rw[if_neg q,x3 q]
 rw[hix0];by_cases h2:aN s.rule<x.cat.rules.length
 case neg =>
  repeat first|refine aa ?_|intro _|refine bH ?_
  exact KX.d7 ai ag ⟨by rw[aF (fun h=>h2 (by have:=h.1.2;omega))];rfl,rfl⟩
 by_cases h3a:1≤s.times
 case neg =>
  repeat first|refine aa ?_|intro _|refine bH ?_
  exact KX.d7 ai ag ⟨by rw[aF (fun h=>h3a h.2.1.1)];rfl,rfl⟩
 by_cases h3b:s.times≤1048576
 case neg =>
  repeat first|refine aa ?_|intro _|refine bH ?_
  exact KX.d7 ai ag ⟨by rw[aF (fun h=>h3b h.2.1.2)];rfl,rfl⟩
 have hix:(aN s.rule).toNat<x.cat.rules.length:=ac;have hmem:x.cat.rules[(aN s.rule).toNat]!∈x.cat.rules:=aI hix;have hrm' : x.cat.m.rules[(aN s.rule).toNat]! = x.cat.rules[(aN s.rule).toNat]!.m:=eo RuV.m hix;have hmm:x.cat.rules[(aN s.rule).toNat]!.m∈x.cat.m.rules:=alStd0List_mem_map_of_mem hmem;have hrg:=hg.ru _ hmm;refine G.ent (Ent.at (A:=catP x.cat) (catOpenR.trans (Ent.d7 (Ent.d7 Ent.drop)))) ?_;refine G.ent (Ent.at (A:=allP ruP x.cat.rules) ((Ent.d9 (f:=ruP) hmem).trans (ruOpen.trans (Ent.d7 (Ent.d7 (Ent.d7 Ent.drop)))))) ?_;have hru:=hB.ru _ hmem;have hct:=hc.take _ hmm;have hcg:=hc.give _ hmm;have hcb:=hc.back _ hmm
 have hcr:fw x.cat.m.rules s.rule s.times (s.moves.map MvV.m)↔(x.cat.rules[(aN s.rule).toNat]!.spawn=false∧¬(s.rule < -1∧x.cat.rules[(aN s.rule).toNat]!.chance ≥ x.cat.rules[(aN s.rule).toNat]!.of_)∧s.moves.length=x.cat.rules[(aN s.rule).toNat]!.take.l.length+(x.cat.rules[(aN s.rule).toNat]!.given s.rule).l.length ∧
   (∀i:Nat,i<x.cat.rules[(aN s.rule).toNat]!.take.l.length→ky (s.moves.map MvV.m) s.times x.cat.rules[(aN s.rule).toNat]!.take.l[i]! (s.moves.map MvV.m)[i]!) ∧
   (∀i:Nat,i<(x.cat.rules[(aN s.rule).toNat]!.given s.rule).l.length→kD ((s.moves.map MvV.m)[x.cat.rules[(aN s.rule).toNat]!.take.l.length]!).to s.times (x.cat.rules[(aN s.rule).toNat]!.given s.rule).l[i]! (s.moves.map MvV.m)[x.cat.rules[(aN s.rule).toNat]!.take.l.length+i]!)):=by
  unfold fw;rw[hrm',qV,aG];exact⟨fun h=>h.2.2,fun h=>⟨⟨h1,ac⟩,⟨h3a,h3b⟩,h⟩⟩
 obtain⟨hr1,hr2,hr3⟩:=hru;simp only[AmB,RuV.m] at hct hcg hcb;have hgl:(x.cat.rules[(aN s.rule).toNat]!.given s.rule).l.length≤64:=by unfold RuV.given;split<;>assumption
 have hgb:∀a∈(x.cat.rules[(aN s.rule).toNat]!.given s.rule).l,0≤a.2∧a.2≤1099511627776:=by unfold RuV.given;split<;>assumption
 have hch:x.cat.rules[(aN s.rule).toNat]!.chance≤x.cat.rules[(aN s.rule).toNat]!.of_:=hrg.num.2.2.2.2;cases h4:x.cat.rules[(aN s.rule).toNat]!.spawn with
 | true =>
  repeat first|refine aa ?_|intro _|refine bH ?_
  rw[h4];repeat first|refine aa ?_|intro _|refine bH ?_
  exact KX.d7 ai ag ⟨by rw[aF (fun h=>by have:=(hcr.1 h).1;rw[h4] at this;cases this)];rfl,rfl⟩
 | false =>
 repeat first|((fail_if_success (with_reducible refine G.e7 8 ?_));(with_reducible apply G.seq))|refine bB ?_|intro _|refine bH ?_
 rw[h4];repeat first|((fail_if_success (with_reducible refine G.e7 8 ?_));(with_reducible apply G.seq))|refine bB ?_|intro _|refine bH ?_
 refine G.d9 (α:=Unit) (fun _=>True) (fun _=>[(0,au b),(3,au b3),(5,ab (aN s.rule)),(6,.slice x.cat.rules[(aN s.rule).toNat]!.take.ad x.cat.rules[(aN s.rule).toNat]!.take.l.length x.cat.rules[(aN s.rule).toNat]!.take.cap),(7,.slice (x.cat.rules[(aN s.rule).toNat]!.given s.rule).ad (x.cat.rules[(aN s.rule).toNat]!.given s.rule).l.length (x.cat.rules[(aN s.rule).toNat]!.given s.rule).cap)]) (fun _=>amS (x.cat.rules[(aN s.rule).toNat]!.given s.rule)::amS x.cat.rules[(aN s.rule).toNat]!.take::isl bQ 9 x.cat.rad x.cat.rules::obj b3 bh (aJ s)::L) ?_ ?_
 ·by_cases q:s.rule<0
  ·have eg:(x.cat.rules[(aN s.rule).toNat]!.given s.rule)=x.cat.rules[(aN s.rule).toNat]!.back:=by unfold RuV.given;rw[if_pos (x1.1 q)]
   rw[eg];repeat first|refine aa ?_|intro _|refine bH ?_
   exact⟨(),trivial,aj,by exact ag⟩
  ·have eg:(x.cat.rules[(aN s.rule).toNat]!.given s.rule)=x.cat.rules[(aN s.rule).toNat]!.give:=by unfold RuV.given;rw[if_neg (fun w=>q (x1.2 w))]
   rw[eg];repeat first|refine aa ?_|intro _|refine bH ?_
   exact⟨(),trivial,aj,by exact ag⟩
 rintro _ _;by_cases h5:s.rule<0∧x.cat.rules[(aN s.rule).toNat]!.chance=x.cat.rules[(aN s.rule).toNat]!.of_
 ·obtain⟨h5a,h5b⟩:=h5;repeat first|refine aa ?_|intro _|refine bH ?_
  exact KX.d7 ai ag ⟨by rw[aF (fun h=>(hcr.1 h).2.1 ⟨x1.1 h5a,ac⟩)];rfl,rfl⟩
 have h5' : ¬(s.rule < -1∧x.cat.rules[(aN s.rule).toNat]!.chance ≥ x.cat.rules[(aN s.rule).toNat]!.of_):=fun q=>h5 ⟨ac,ac⟩;by_cases h6:s.moves.length=x.cat.rules[(aN s.rule).toNat]!.take.l.length+(x.cat.rules[(aN s.rule).toNat]!.given s.rule).l.length
 case neg =>
  by_cases h5a:s.rule<0
  ·have h5b:¬x.cat.rules[(aN s.rule).toNat]!.chance=x.cat.rules[(aN s.rule).toNat]!.of_:=fun q=>h5 ⟨h5a,q⟩;repeat first|refine aa ?_|intro _|refine bH ?_
   exact KX.d7 ai ag ⟨by rw[aF (fun h=>h6 (hcr.1 h).2.2.1)];rfl,rfl⟩
  ·repeat first|refine aa ?_|intro _|refine bH ?_
   exact KX.d7 ai ag ⟨by rw[aF (fun h=>h6 (hcr.1 h).2.2.1)];rfl,rfl⟩
 have hiff:fw x.cat.m.rules s.rule s.times (s.moves.map MvV.m)↔pI x.cat.rules[(aN s.rule).toNat]!.take.l (x.cat.rules[(aN s.rule).toNat]!.given s.rule).l s.moves s.times s.moves.length:=by
  rw[hcr,FG hf h6];exact⟨fun h=>⟨h.2.2.2.1,h.2.2.2.2⟩,fun h=>⟨h4,h5',h6,h.1,h.2⟩⟩
 refine G.d9 (α:=Unit) (fun _=>True) (fun _=>[(0,au b),(3,au b3),(5,ab (aN s.rule)),(6,.slice x.cat.rules[(aN s.rule).toNat]!.take.ad x.cat.rules[(aN s.rule).toNat]!.take.l.length x.cat.rules[(aN s.rule).toNat]!.take.cap),(7,.slice (x.cat.rules[(aN s.rule).toNat]!.given s.rule).ad (x.cat.rules[(aN s.rule).toNat]!.given s.rule).l.length (x.cat.rules[(aN s.rule).toNat]!.given s.rule).cap)]) (fun _=>amS (x.cat.rules[(aN s.rule).toNat]!.given s.rule)::amS x.cat.rules[(aN s.rule).toNat]!.take::isl bQ 9 x.cat.rad x.cat.rules::obj b3 bh (aJ s)::L) ?_ ?_
 ·by_cases h5a:s.rule<0
  ·have h5b:¬x.cat.rules[(aN s.rule).toNat]!.chance=x.cat.rules[(aN s.rule).toNat]!.of_:=fun q=>h5 ⟨h5a,q⟩;repeat first|refine aa ?_|intro _|refine bH ?_
   exact⟨(),trivial,aj,by exact ag⟩
  ·repeat first|refine aa ?_|intro _|refine bH ?_
   exact⟨(),trivial,aj,by exact ag⟩
 rintro _ _;have hl1:((s.moves.length:Int) - 1).toNat=s.moves.length - 1:=ac;have hl1' : ((s.moves.length:Int) - 1).toNat<s.moves.length:=ac;repeat first|refine aa ?_|intro _|refine bH ?_
 refine G.loop (α:=Nat) (fun k=>k≤s.moves.length∧pI x.cat.rules[(aN s.rule).toNat]!.take.l (x.cat.rules[(aN s.rule).toNat]!.given s.rule).l s.moves s.times k) (fun k=>[(0,au b),(3,au b3),(5,ab (aN s.rule)),(6,.slice x.cat.rules[(aN s.rule).toNat]!.take.ad x.cat.rules[(aN s.rule).toNat]!.take.l.length x.cat.rules[(aN s.rule).toNat]!.take.cap),(7,.slice (x.cat.rules[(aN s.rule).toNat]!.given s.rule).ad (x.cat.rules[(aN s.rule).toNat]!.given s.rule).l.length (x.cat.rules[(aN s.rule).toNat]!.given s.rule).cap),(8,ab (k:Int))]) (fun _=>amS (x.cat.rules[(aN s.rule).toNat]!.given s.rule)::amS x.cat.rules[(aN s.rule).toNat]!.take::isl bQ 9 x.cat.rad x.cat.rules::obj b3 bh (aJ s)::L) (fun k=>s.moves.length - k) 0 ⟨ao _,fun j hj=>absurd hj (cd j)⟩ aj (Ent.refl _) ?_;rintro k ⟨hk,hok⟩;by_cases hlt:k<s.moves.length
 case neg =>
  obtain rfl:k=s.moves.length:=ac;repeat first|refine aa ?_|intro _|refine bH ?_
  exact KX.d7 ai ag ⟨by rw[aU (hiff.2 hok)];rfl,rfl⟩
 have hkk:(k:Int).toNat=k:=aA k;have hlt' : (k:Int).toNat<s.moves.length:=ac;have hno:¬((k<x.cat.rules[(aN s.rule).toNat]!.take.l.length→nb s.moves s.times x.cat.rules[(aN s.rule).toNat]!.take.l[k]! s.moves[k]!)∧(x.cat.rules[(aN s.rule).toNat]!.take.l.length≤k→nh s.moves s.times (x.cat.rules[(aN s.rule).toNat]!.given s.rule).l[k - x.cat.rules[(aN s.rule).toNat]!.take.l.length]! s.moves[k]!))→dB (fw x.cat.m.rules s.rule s.times (s.moves.map MvV.m))=false:=fun hn=>aF (fun q=>hn (hiff.1 q k hlt));have hnext:((k<x.cat.rules[(aN s.rule).toNat]!.take.l.length→nb s.moves s.times x.cat.rules[(aN s.rule).toNat]!.take.l[k]! s.moves[k]!)∧(x.cat.rules[(aN s.rule).toNat]!.take.l.length≤k→nh s.moves s.times (x.cat.rules[(aN s.rule).toNat]!.given s.rule).l[k - x.cat.rules[(aN s.rule).toNat]!.take.l.length]! s.moves[k]!))→pI x.cat.rules[(aN s.rule).toNat]!.take.l (x.cat.rules[(aN s.rule).toNat]!.given s.rule).l s.moves s.times (k+1):=fun h=>Eg hok h;repeat first|((fail_if_success (with_reducible refine G.e7 16 ?_));(with_reducible apply G.seq))|refine bB ?_|intro _|refine bH ?_
 rename_i b9;rw[hkk];by_cases ht:k<x.cat.rules[(aN s.rule).toNat]!.take.l.length
 ·have htm:=hct _ (aI ht)
  have hmb:0≤x.cat.rules[(aN s.rule).toNat]!.take.l[(k:Int).toNat]!.2*s.times∧x.cat.rules[(aN s.rule).toNat]!.take.l[(k:Int).toNat]!.2*s.times≤1099511627776*1048576:=by
   rw[hkk];exact⟨dC htm.1 ac,eN htm.2 h3b ac ae⟩
  have hno' : ¬nb s.moves s.times x.cat.rules[(aN s.rule).toNat]!.take.l[k]! s.moves[k]!→dB (fw x.cat.m.rules s.rule s.times (s.moves.map MvV.m))=false:=fun q=>hno (fun w=>q (w.1 ht));have hkt:(k:Int).toNat<x.cat.rules[(aN s.rule).toNat]!.take.l.length:=ac;by_cases c1:s.moves[k]!.m.frm=s.moves[(0:Int).toNat]!.m.frm
  case neg =>
   repeat first|refine aa ?_|intro _|refine bH ?_
   exact KX.d7 ai ag ⟨by rw[hno' (fun q=>c1 q.1)];rfl,rfl⟩
  by_cases c2:1≤s.moves[k]!.m.frm
  case neg =>
   repeat first|refine aa ?_|intro _|refine bH ?_
   exact KX.d7 ai ag ⟨by rw[hno' (fun q=>c2 q.2.1)];rfl,rfl⟩
  by_cases c3:s.moves[k]!.m.to=0
  case neg =>
   repeat first|refine aa ?_|intro _|refine bH ?_
   exact KX.d7 ai ag ⟨by rw[hno' (fun q=>c3 q.2.2.1)];rfl,rfl⟩
  by_cases c4:s.moves[k]!.m.item=x.cat.rules[(aN s.rule).toNat]!.take.l[(k:Int).toNat]!.1
  case neg =>
   repeat first|refine aa ?_|intro _|refine bH ?_
   exact KX.d7 ai ag ⟨by rw[hno' (fun q=>c4 (by rw[hkk];exact q.2.2.2.1))];rfl,rfl⟩
  by_cases c5:s.moves[k]!.m.n=x.cat.rules[(aN s.rule).toNat]!.take.l[(k:Int).toNat]!.2*s.times
  case neg =>
   repeat first|refine aa ?_|intro _|refine bH ?_
   exact KX.d7 ai ag ⟨by rw[hno' (fun q=>c5 (by rw[hkk];exact q.2.2.2.2))];rfl,rfl⟩
  repeat first|refine aa ?_|intro _|refine bH ?_
  rw[hkk] at c4 c5;refine⟨k+1,⟨ac,hnext ⟨fun _=>⟨c1,c2,c3,c4,c5⟩,fun q=>absurd q ac⟩⟩,ac,?_,by exact ag⟩;rw[aP k];exact aj
 ·have hke:((k:Int) - (x.cat.rules[(aN s.rule).toNat]!.take.l.length:Int)).toNat=k - x.cat.rules[(aN s.rule).toNat]!.take.l.length:=ac;have hkg:((k:Int) - (x.cat.rules[(aN s.rule).toNat]!.take.l.length:Int)).toNat<(x.cat.rules[(aN s.rule).toNat]!.given s.rule).l.length:=ac;have htm:=hgb _ (aI hkg);have hmb:0≤(x.cat.rules[(aN s.rule).toNat]!.given s.rule).l[((k:Int) - (x.cat.rules[(aN s.rule).toNat]!.take.l.length:Int)).toNat]!.2*s.times∧(x.cat.rules[(aN s.rule).toNat]!.given s.rule).l[((k:Int) - (x.cat.rules[(aN s.rule).toNat]!.take.l.length:Int)).toNat]!.2*s.times≤1099511627776*1048576:=⟨dC htm.1 ac,eN htm.2 h3b ac ae⟩;have hno' : ¬nh s.moves s.times (x.cat.rules[(aN s.rule).toNat]!.given s.rule).l[k - x.cat.rules[(aN s.rule).toNat]!.take.l.length]! s.moves[k]!→dB (fw x.cat.m.rules s.rule s.times (s.moves.map MvV.m))=false:=fun q=>hno (fun w=>q (w.2 ac));by_cases c1:s.moves[k]!.m.frm=0
  case neg =>
   repeat first|refine aa ?_|intro _|refine bH ?_
   exact KX.d7 ai ag ⟨by rw[hno' (fun q=>c1 q.1)];rfl,rfl⟩
  by_cases c2:1≤s.moves[k]!.m.to
  case neg =>
   repeat first|refine aa ?_|intro _|refine bH ?_
   exact KX.d7 ai ag ⟨by rw[hno' (fun q=>c2 q.2.1)];rfl,rfl⟩
  by_cases c3:s.moves[k]!.m.to=s.moves[((s.moves.length:Int) - 1).toNat]!.m.to
  case neg =>
   repeat first|refine aa ?_|intro _|refine bH ?_
   exact KX.d7 ai ag ⟨by rw[hno' (fun q=>c3 (by rw[hl1];exact q.2.2.1))];rfl,rfl⟩
  by_cases c4:s.moves[k]!.m.item=(x.cat.rules[(aN s.rule).toNat]!.given s.rule).l[((k:Int) - (x.cat.rules[(aN s.rule).toNat]!.take.l.length:Int)).toNat]!.1
  case neg =>
   repeat first|refine aa ?_|intro _|refine bH ?_
   exact KX.d7 ai ag ⟨by rw[hno' (fun q=>c4 (by rw[hke];exact q.2.2.2.1))];rfl,rfl⟩
  by_cases c5:s.moves[k]!.m.n=(x.cat.rules[(aN s.rule).toNat]!.given s.rule).l[((k:Int) - (x.cat.rules[(aN s.rule).toNat]!.take.l.length:Int)).toNat]!.2*s.times
  case neg =>
   repeat first|refine aa ?_|intro _|refine bH ?_
   exact KX.d7 ai ag ⟨by rw[hno' (fun q=>c5 (by rw[hke];exact q.2.2.2.2))];rfl,rfl⟩
  repeat first|refine aa ?_|intro _|refine bH ?_
  rw[hke] at c4 c5;rw[hl1] at c3;refine⟨k+1,⟨ac,hnext ⟨fun q=>absurd q ht,fun _=>⟨c1,c2,c3,c4,c5⟩⟩⟩,ac,?_,by exact ag⟩;rw[aP k];exact aj
def rnow(x:RLX):Int:=(x.steps.getLast?.map (·.tick)).getD 0
