/- Lemmas. -/
import Derived.Test.YtlgpgjdggilkgaaGreatDoorEcal
set_option linter.all false
set_option maxHeartbeats 2000000
namespace Go.Proofs.YtlgpgjdggilkgaaGreatDoor
section
open Go.V
attribute [local irreducible] G GO GP GPW GPK Ev Ef EfR Ent CB GB Enters
def Hy{c:CatV}{L:LH}:Ent (catP c::L) (isl dL 7 c.iad c.items::catP c::L) :=
 (Ent.dup (tW c).pers).trans (Ent.andE.trans (Ent.a8 Ent.drop))
def Hx{c:CatV}{L:LH}:Ent (catP c::L) (isl dE 9 c.rad c.rules::allP ruP c.rules::catP c::L) :=
 (Ent.dup (tW c).pers).trans (Ent.andE.trans (Ent.drop.trans (Ent.andE.trans ((Ent.a8 Ent.drop).trans Ent.andE))))
def EF{r:RuV}{L:LH}:Ent (ruP r::L) (amS r.take::amS r.give::amS r.back::L):=Ent.andE.trans (Ent.a8 Ent.andE)
def kc(n:Int):Prop:=1≤n∧n≤1048576
instance:DecidablePred kc:=fun n=>by unfold kc;infer_instance
def qn{L:LH}(n:Int):Tri Tryz.prog 299 #[ac n] L (rtQ (.bool (dB (kc n))) L):=by
 refine Tri.bd ?_;by_cases h1:1≤n
 ·by_cases h2:n≤1048576
  ·refine Ks ?_;intros;exact KX.a8 aA (Ent.refl _) ⟨by rw[bE h2,bE (show kc n from⟨h1,h2⟩)];rfl,rfl⟩
  ·refine Ks ?_;intros;exact KX.a8 aA (Ent.refl _) ⟨by rw[aW h2,aW (fun h:kc n=>h2 h.2)];rfl,rfl⟩
 ·refine Ks ?_;intros;exact KX.a8 aA (Ent.refl _) ⟨by rw[aW (fun h:kc n=>h1 h.1)];rfl,rfl⟩
def kP(rule times:Int):Prop:=rule = -1∧times=0
instance (a b:Int):Decidable (kP a b):=by unfold kP;infer_instance
def ya{L:LH}(b:Nat)(s:StV):Tri Tryz.prog 271 #[ax b,aU (dQ s)] L (rtQ (.bool (dB (kP s.rule s.times))) L):=by
 refine Tri.bd ?_;by_cases h1:s.rule = -1
 ·by_cases h2:s.times=0
  ·refine Ks ?_;intros;exact KX.a8 aA ah ⟨by rw[bE h2,bE (show kP s.rule s.times from⟨h1,h2⟩)];rfl,rfl⟩
  ·refine Ks ?_;intros;exact KX.a8 aA ah ⟨by rw[aW h2,aW (fun h:kP s.rule s.times=>h2 h.2)];rfl,rfl⟩
 ·refine Ks ?_;intros;exact KX.a8 aA ah ⟨by rw[aW (fun h:kP s.rule s.times=>h1 h.1)];rfl,rfl⟩
def AmB(l:List (Int×Int)):Prop:=∀a∈l,0≤a.2∧a.2≤1099511627776
structure CatM.Ok (c:CatM):Prop where
 take:∀r∈c.rules,AmB r.take
 give:∀r∈c.rules,AmB r.give
 back:∀r∈c.rules,AmB r.back
def dA(rule:Int):Int:=if rule < -1 then -2 - rule else rule
def qt(r:RuM)(rule:Int):List (Int×Int):=if rule < -1 then r.back else r.give
def sX(ms:List MvM)(times:Int)(a:Int×Int)(m:MvM):Prop:=m.frm=ms[0]!.frm∧m.to=0∧m.item=a.1∧m.n=a.2*times
def tM(t0 times:Int)(a:Int×Int)(m:MvM):Prop:=m.frm=0∧m.to=t0∧m.item=a.1∧m.n=a.2*times
def jv(rules:List RuM)(rule times:Int)(ms:List MvM):Prop :=
 (0≤dA rule∧dA rule<rules.length)∧kc times∧rules[(dA rule).toNat]!.spawn=false∧¬(rule < -1∧rules[(dA rule).toNat]!.chance ≥ rules[(dA rule).toNat]!.of_) ∧
 ms.length=rules[(dA rule).toNat]!.take.length+(qt rules[(dA rule).toNat]! rule).length ∧
 (∀i:Nat,i<rules[(dA rule).toNat]!.take.length→sX ms times rules[(dA rule).toNat]!.take[i]! ms[i]!) ∧
 (∀i:Nat,i<(qt rules[(dA rule).toNat]! rule).length→tM (ms[rules[(dA rule).toNat]!.take.length]!).to times (qt rules[(dA rule).toNat]! rule)[i]! ms[rules[(dA rule).toNat]!.take.length+i]!)
noncomputable instance (a b c d):Decidable (jv a b c d):=Classical.propDecidable _
def RuV.given(r:RuV)(rule:Int):AmS:=if rule < -1 then r.back else r.give
def Hl(r:RuV)(rule:Int):(r.given rule).l=qt r.m rule:=by unfold RuV.given qt;split<;>rfl
abbrev tRu:Nat:=267
instance:Inhabited MvM:=inferInstance
def xP(ms:List MvV){i:Nat}(h:i<ms.length):(ms.map MvV.m)[i]! = ms[i]!.m:=iZ _ h
abbrev CA:=XB [.ev 6]
abbrev zC:=XF [.ev 17,.ev 18,.ev 19,.ev 20,.ev 21,.ev 22,.ev 23,.ev 24,.ev 25,.ev 26,.ev 27,.ev 28,.ev 29]
abbrev zB:=XF [.ev 17,.ev 18,.ev 19,.ev 20,.ev 21,.ev 22,.ev 23,.ev 24,.ev 25,.ev 26,.ev 27,.ev 28]
def be{φ ψ:Prop}(k:ψ)(h:Hid ψ→φ:=by intro k;(with_reducible apply G.a8);first|refine G.dr 171 1 CA (Hid.out k)|refine G.dr 171 16 zC (Hid.out k)|refine G.dr 171 24 zB (Hid.out k)):φ:=h ⟨k⟩
def Le{φ ψ:Prop}(k:ψ)(h:Hid ψ→φ:=by intro k;(repeat (first|refine aa ?_|intro zzz|refine be ?_));(repeat revert zzz);exact Hid.out k):φ:=h ⟨k⟩
def yb{L R:LH}{b:Nat}{sh:Int}{x:LedX}[hp:PickObj L b tLed (bW sh x) R](s:StV)[e5:Rds L s.mad MvV cj 5 s.moves](hc:x.cat.m.Ok)(hB:x.cat.B)(f2:s.moves.length≤64)(b9:s.moves.length≤s.mcap)(hI:I64 s.rule) :
  Tri Tryz.prog 273 #[ax b,aU (dQ s)] (catP x.cat::L) (rtQ (.bool (dB (jv x.cat.m.rules s.rule s.times (s.moves.map MvV.m)))) (catP x.cat::L)):=by
 obtain⟨e7,e8⟩:=hI;have f4:=hB.rules;have e2:x.cat.m.rules.length=x.cat.rules.length:=by simp[CatV.m]
 refine Tri.bd ?_;repeat first|refine G.sm 2 ?_|refine dq ?_|intro _|refine be ?_
 rename_i b3;refine G.c7 (α:=Unit) (fun _=>True) (fun _=>[(0,ax b),(3,ax b3),(4,.bool false),(5,ac (dA s.rule)),(6,.bool (dB (s.rule < -1)))]) (fun _=>obj b3 ik (dQ s)::catP x.cat::L) ?_ ?_
 ·by_cases hf:s.rule < -1
  ·refine Le ?_;intros;refine⟨(),trivial,?_,by exact ah⟩;unfold dA;rw[if_pos hf];exact aC
  ·refine Le ?_;intros;refine⟨(),trivial,?_,by exact ah⟩;unfold dA;rw[if_neg hf];exact aC
 rintro _ _;by_cases h1:0≤dA s.rule
 case neg =>
  refine Le ?_;intros;exact KX.a8 aA ah ⟨by rw[aW (fun h=>h1 h.1.1)];rfl,rfl⟩
 by_cases h2:dA s.rule<x.cat.rules.length
 case neg =>
  refine Le ?_;intros;exact KX.a8 aA ah ⟨by rw[aW (fun h=>h2 (by have:=h.1.2;omega))];rfl,rfl⟩
 refine Le ?_;intros;refine GO.cr (qn s.times) ?_;by_cases h3:kc s.times
 case neg =>
  rw[aW h3];refine Le ?_;intros;exact KX.a8 aA ah ⟨by rw[aW (fun h=>h3 h.2.1)];rfl,rfl⟩
 rw[bE h3];have c1:(dA s.rule).toNat<x.cat.rules.length:=ab;have a1:x.cat.rules[(dA s.rule).toNat]!∈x.cat.rules:=aV c1;have b5 : x.cat.m.rules[(dA s.rule).toNat]! = x.cat.rules[(dA s.rule).toNat]!.m:=iZ RuV.m c1;have b6:x.cat.rules[(dA s.rule).toNat]!.m∈x.cat.m.rules:=alStd0List_mem_map_of_mem a1;refine GO.ent (Ent.at (A:=catP x.cat) Hx) ?_;refine GO.ent (Ent.at (A:=allP ruP x.cat.rules) ((Ent.c9 (f:=ruP) a1).trans EF)) ?_;have e6:=hB.ru _ a1;have d1:=hc.take _ b6;have d0:=hc.give _ b6;have c6:=hc.back _ b6
 have a4:jv x.cat.m.rules s.rule s.times (s.moves.map MvV.m)↔(x.cat.rules[(dA s.rule).toNat]!.spawn=false∧¬(s.rule < -1∧x.cat.rules[(dA s.rule).toNat]!.chance ≥ x.cat.rules[(dA s.rule).toNat]!.of_)∧s.moves.length=x.cat.rules[(dA s.rule).toNat]!.take.l.length+(x.cat.rules[(dA s.rule).toNat]!.given s.rule).l.length ∧
   (∀i:Nat,i<x.cat.rules[(dA s.rule).toNat]!.take.l.length→sX (s.moves.map MvV.m) s.times x.cat.rules[(dA s.rule).toNat]!.take.l[i]! (s.moves.map MvV.m)[i]!) ∧
   (∀i:Nat,i<(x.cat.rules[(dA s.rule).toNat]!.given s.rule).l.length→tM ((s.moves.map MvV.m)[x.cat.rules[(dA s.rule).toNat]!.take.l.length]!).to s.times (x.cat.rules[(dA s.rule).toNat]!.given s.rule).l[i]! (s.moves.map MvV.m)[x.cat.rules[(dA s.rule).toNat]!.take.l.length+i]!)):=by
  unfold jv;rw[b5,Hl,an];exact⟨fun h=>h.2.2,fun h=>⟨⟨h1,ab⟩,h3,h⟩⟩
 obtain⟨e9,c5⟩:=h3;obtain⟨f3,e3,e4⟩:=e6;simp only[AmB,RuV.m] at d1 d0 c6;have f0:(x.cat.rules[(dA s.rule).toNat]!.given s.rule).l.length≤64:=by unfold RuV.given;split<;>assumption
 have e1:∀a∈(x.cat.rules[(dA s.rule).toNat]!.given s.rule).l,0≤a.2∧a.2≤1099511627776:=by unfold RuV.given;split<;>assumption
 refine GO.ent (L':=amS (x.cat.rules[(dA s.rule).toNat]!.given s.rule)::amS x.cat.rules[(dA s.rule).toNat]!.take::isl dE 9 x.cat.rad x.cat.rules::catP x.cat::obj b3 ik (dQ s)::L) ?_ ?_
 ·unfold RuV.given;split
  ·exact ah
  ·exact ah
 repeat first|refine G.sm 8 ?_|refine dq ?_|intro _|refine be ?_
 rename_i b7;have d3:∀h:s.rule < -1,x.cat.rules[(dA s.rule).toNat]!.given s.rule=x.cat.rules[(dA s.rule).toNat]!.back:=fun h=>if_pos h;have d4:∀h:¬s.rule < -1,x.cat.rules[(dA s.rule).toNat]!.given s.rule=x.cat.rules[(dA s.rule).toNat]!.give:=fun h=>if_neg h;clear b5 a1 b6 d0 c6 e3 e4 c1;generalize x.cat.rules[(dA s.rule).toNat]! = r at *;generalize r.given s.rule=gv at *;refine G.c7 (α:=Unit) (fun _=>True) (fun _=>[(0,ax b),(3,ax b3),(4,.bool false),(6,.bool (dB (s.rule < -1))),(7,ax b7),(8,ag gv.ad gv.l.length gv.cap)]) (fun _=>obj b7 tRu (dE r)::obj b3 ik (dQ s)::amS gv::amS r.take::catP x.cat::L) ?_ ?_
 ·by_cases hf:s.rule < -1
  ·rw[d3 hf];refine Le ?_;intros;exact⟨(),trivial,aC,by exact ah⟩
  ·rw[d4 hf];refine Le ?_;intros;exact⟨(),trivial,aC,by exact ah⟩
 rintro _ _;clear d3 d4;cases h4:r.spawn with
 | true =>
  refine Le ?_;intros;rw[h4];refine Le ?_;intros;exact KX.a8 aA ah ⟨by rw[aW (fun h=>by have:=(a4.1 h).1;rw[h4] at this;cases this)];rfl,rfl⟩
 | false =>
 by_cases h5:s.rule < -1∧r.chance ≥ r.of_
 case pos =>
  obtain⟨a6,b8⟩:=h5;refine Le ?_;intros;rw[h4];refine Le ?_;intros;exact KX.a8 aA ah ⟨by rw[aW (fun h=>(a4.1 h).2.1 ⟨a6,b8⟩)];rfl,rfl⟩
 by_cases h6:s.moves.length=r.take.l.length+gv.l.length
 case neg =>
  by_cases a6:s.rule < -1
  ·have b8:¬r.chance ≥ r.of_:=fun h=>h5 ⟨a6,h⟩;refine Le ?_;intros;rw[h4];refine Le ?_;intros;exact KX.a8 aA ah ⟨by rw[aW (fun h=>h6 (a4.1 h).2.2.1)];rfl,rfl⟩
  ·refine Le ?_;intros;rw[h4];refine Le ?_;intros;exact KX.a8 aA ah ⟨by rw[aW (fun h=>h6 (a4.1 h).2.2.1)];rfl,rfl⟩
 refine G.c7 (α:=Unit) (fun _=>True) (fun _=>[(0,ax b),(3,ax b3),(4,.bool false),(7,ax b7),(8,ag gv.ad gv.l.length gv.cap)]) (fun _=>obj b7 tRu (dE r)::obj b3 ik (dQ s)::amS gv::amS r.take::catP x.cat::L) ?_ ?_
 ·by_cases a6:s.rule < -1
  ·have b8:¬r.chance ≥ r.of_:=fun h=>h5 ⟨a6,h⟩;refine Le ?_;intros;rw[h4];refine Le ?_;intros;exact⟨(),trivial,aC,by exact ah⟩
  ·refine Le ?_;intros;rw[h4];refine Le ?_;intros;exact⟨(),trivial,aC,by exact ah⟩
 rintro _ _;have f6:r.take.l.length≤s.moves.length:=ab;have f1:(s.moves.map MvV.m)[0]! = (s.moves.map MvV.m)[(0:Int).toNat]!:=rfl;refine Le ?_;intros;refine G.loop (α:=Nat) (fun i=>i≤r.take.l.length∧∀j:Nat,j<i→sX (s.moves.map MvV.m) s.times r.take.l[j]! (s.moves.map MvV.m)[j]!) (fun i=>[(0,ax b),(3,ax b3),(4,.bool false),(7,ax b7),(8,ag gv.ad gv.l.length gv.cap),(81,ag r.take.ad r.take.l.length r.take.cap),(82,ac (r.take.l.length:Int)),(83,ac (i:Int))]) (fun _=>obj b7 tRu (dE r)::obj b3 ik (dQ s)::amS gv::amS r.take::catP x.cat::L) (fun i=>r.take.l.length - i) 0 ⟨aw _,fun j h=>absurd h ab⟩ aC (Ent.refl _) ?_;rintro i ⟨hi,d2⟩;by_cases d5:i<r.take.l.length
 case neg =>
  have c0:i=r.take.l.length:=ab;subst c0;haveI hrd:=Rds.drop e5 b9 r.take.l.length
  have e0:(s.moves.drop r.take.l.length).length=gv.l.length:=by rw[bY];omega
  have b0:∀j:Nat,j<gv.l.length→(s.moves.map MvV.m)[r.take.l.length+j]! = (s.moves.drop r.take.l.length)[j]!.m:=by
   intro j hj;rw[xP _ ab,getElem!_of (ab:j<(s.moves.drop r.take.l.length).length),getElem!_of (ab:r.take.l.length+j<s.moves.length),fu]
  refine Le ?_;intros;rw[aY,show s.moves.length - r.take.l.length=(s.moves.drop r.take.l.length).length by simp];generalize advA s.mad s.mcap 5 r.take.l.length=ad2 at hrd ⊢;generalize hq:s.moves.drop r.take.l.length=ms2 at hrd e0 b0 ⊢;generalize s.mcap - r.take.l.length=cap2;refine G.loop (α:=Nat) (fun i=>i≤gv.l.length∧∀j:Nat,j<i→tM ms2[0]!.m.to s.times gv.l[j]! ms2[j]!.m) (fun i=>[(0,ax b),(3,ax b3),(4,.bool false),(7,ax b7),(12,ag ad2 ms2.length cap2),(130,ag gv.ad gv.l.length gv.cap),(131,ac (gv.l.length:Int)),(132,ac (i:Int))]) (fun _=>obj b7 tRu (dE r)::obj b3 ik (dQ s)::amS gv::amS r.take::catP x.cat::L) (fun i=>gv.l.length - i) 0 ⟨aw _,fun j h=>absurd h ab⟩ aC (Ent.refl _) ?_;rintro i ⟨hi,b1⟩;by_cases a5:i<gv.l.length
  case neg =>
   have c0:i=gv.l.length:=ab;subst c0
   have c4:jv x.cat.m.rules s.rule s.times (s.moves.map MvV.m):=by
    refine a4.2 ⟨h4,h5,h6,d2,fun j hj=>?_⟩;rw[b0 j hj,show r.take.l.length=r.take.l.length+0 from rfl,b0 0 ab];exact b1 j hj
   refine Le ?_;intros;exact KX.a8 aA ah ⟨by rw[bE c4];rfl,rfl⟩
  have a0:(i:Int).toNat=i:=ab;obtain⟨a7,a9⟩:=e1 _ (aV a5);have b4:0≤gv.l[i]!.2*s.times∧gv.l[i]!.2*s.times≤1099511627776*1048576:=⟨Int.mul_nonneg a7 ab,Int.mul_le_mul a9 c5 ab ab⟩;rw[show gv.l[i]! = gv.l[(i:Int).toNat]! by rw[a0]] at b4 a7 a9;obtain⟨c2,c3⟩:=b4
  have a2:¬tM ms2[0]!.m.to s.times gv.l[i]! ms2[i]!.m→dB (jv x.cat.m.rules s.rule s.times (s.moves.map MvV.m))=false:=fun h=>aW (fun h'=>h (by
   have h2:=(a4.1 h').2.2.2.2 i a5;rw[b0 i a5] at h2;have h3:=b0 0 ab;rw[eA] at h3;rw[h3] at h2;exact h2))
  by_cases h7:ms2[(i:Int).toNat]!.m.frm=0
  case neg =>
   refine Le ?_;intros;exact KX.a8 aA ah ⟨by rw[a2 (fun h=>h7 (by have:=h.1;rw[a0];exact this))];rfl,rfl⟩
  by_cases h8:ms2[(i:Int).toNat]!.m.to=ms2[(0:Int).toNat]!.m.to
  case neg =>
   refine Le ?_;intros;exact KX.a8 aA ah ⟨by rw[a2 (fun h=>h8 (by have:=h.2.1;rw[a0];exact this))];rfl,rfl⟩
  by_cases h9:ms2[(i:Int).toNat]!.m.item=gv.l[(i:Int).toNat]!.1
  case neg =>
   refine Le ?_;intros;exact KX.a8 aA ah ⟨by rw[a2 (fun h=>h9 (by have:=h.2.2.1;rw[a0];exact this))];rfl,rfl⟩
  by_cases a3:ms2[(i:Int).toNat]!.m.n=gv.l[(i:Int).toNat]!.2*s.times
  case neg =>
   refine Le ?_;intros;exact KX.a8 aA ah ⟨by rw[a2 (fun h=>a3 (by have:=h.2.2.2;rw[a0];exact this))];rfl,rfl⟩
  refine Le ?_;intros;refine⟨i+1,⟨ab,?_⟩,ab,?_,by exact ah⟩
  ·intro j hj;rcases fc j i with h|h
   ·exact b1 j h
   ·obtain rfl:j=i:=ab;rw[a0] at h7 h8 h9 a3;exact⟨h7,h8,h9,a3⟩
  ·rw[bh i];exact aC
 have a0:(i:Int).toNat=i:=ab;have b2:(s.moves.map MvV.m)[i]! = s.moves[(i:Int).toNat]!.m:=by rw[xP _ ab,a0]
 have d6:(s.moves.map MvV.m)[0]! = s.moves[(0:Int).toNat]!.m:=xP _ ab;obtain⟨a7,a9⟩:=d1 _ (aV d5);have b4:0≤r.take.l[i]!.2*s.times∧r.take.l[i]!.2*s.times≤1099511627776*1048576:=⟨Int.mul_nonneg a7 ab,Int.mul_le_mul a9 c5 ab ab⟩;rw[show r.take.l[i]! = r.take.l[(i:Int).toNat]! by rw[a0]] at b4 a7 a9;obtain⟨c2,c3⟩:=b4;have a2:¬sX (s.moves.map MvV.m) s.times r.take.l[i]! (s.moves.map MvV.m)[i]!→dB (jv x.cat.m.rules s.rule s.times (s.moves.map MvV.m))=false:=fun h=>aW (fun h'=>h ((a4.1 h').2.2.2.1 i d5));have f5:(s.moves.map MvV.m).length=s.moves.length:=an ..;by_cases h7:s.moves[(i:Int).toNat]!.m.frm=s.moves[(0:Int).toNat]!.m.frm
 case neg =>
  refine Le ?_;intros;exact KX.a8 aA ah ⟨by rw[a2 (fun h=>h7 (by have:=h.1;rw[b2,d6] at this;exact this))];rfl,rfl⟩
 by_cases h8:s.moves[(i:Int).toNat]!.m.to=0
 case neg =>
  refine Le ?_;intros;exact KX.a8 aA ah ⟨by rw[a2 (fun h=>h8 (by have:=h.2.1;rw[b2] at this;exact this))];rfl,rfl⟩
 by_cases h9:s.moves[(i:Int).toNat]!.m.item=r.take.l[(i:Int).toNat]!.1
 case neg =>
  refine Le ?_;intros;exact KX.a8 aA ah ⟨by rw[a2 (fun h=>h9 (by have:=h.2.2.1;rw[b2] at this;rw[a0] at this ⊢;exact this))];rfl,rfl⟩
 by_cases a3:s.moves[(i:Int).toNat]!.m.n=r.take.l[(i:Int).toNat]!.2*s.times
 case neg =>
  refine Le ?_;intros;exact KX.a8 aA ah ⟨by rw[a2 (fun h=>a3 (by have:=h.2.2.2;rw[b2] at this;rw[a0] at this ⊢;exact this))];rfl,rfl⟩
 refine Le ?_;intros;refine⟨i+1,⟨ab,?_⟩,ab,?_,by exact ah⟩
 ·intro j hj;rcases fc j i with h|h
  ·exact d2 j h
  ·obtain rfl:j=i:=ab;rw[b2];rw[a0] at h7 h8 h9 a3 ⊢;exact⟨by rw[d6];exact h7,h8,h9,a3⟩
 ·rw[bh i];exact aC
def JK(k:Int):Prop:=k=0∨k=1∨k=6∨k=2∨k=3∨k=8∨k=4
def xnow(x:LedX):Int:=(x.steps.getLast?.map (·.tick)).getD 0
abbrev HI:Nat:=299
def xT{l:LL}{x:Lot}(h:∀y∈l,LotOk y)(hx:LotW x):∀y∈bN l x,LotOk y:=by
 intro y hy;unfold bN at hy;unfold LotW at hx;split at hy
 ·exact h y hy
 rename_i h0;split at hy
 ·rename_i h1;obtain⟨h1,h2⟩:=h1;rcases dj hy with hy|rfl
  ·exact h y hy
  ·have h3:=lcont_iff.1 h2;have h4:=h _ (aV (ab:l.length - 1<l.length));unfold LotOk at h4 ⊢;dsimp only;omega
 ·rcases List.mem_append.1 hy with hy|hy
  ·exact h y hy
  ·simp at hy;subst hy;unfold LotOk;omega
def ly{xs:LL}:∀{l:LL},(∀y∈l,LotOk y)→(∀y∈xs,LotW y)→∀y∈xs.foldl bN l,LotOk y:=by
 induction xs with
 | nil=>intro l h _;exact h
 | cons x xs ih=>intro l h hx;exact ih (xT h (hx x (av ..))) (fun y hy=>hx y (au _ hy))
def FP{l:LL}{cs:Nat→Int}(hw:∀x∈l,LotOk x)(hc:∀k,k<l.length→0≤cs k∧cs k≤l[k]!.2.2):(∀x∈divF l cs l.length,LotOk x)∧∀x∈divR l cs l.length,LotOk x:=by
 refine⟨ly cc ?_,ly cc ?_⟩
 all_goals
  intro y hy
  obtain⟨k,hk,rfl⟩:=List.mem_map.1 hy
  have hk:=List.mem_range.1 hk
 ·exact(pc_w hk (fun x h=>(hw x h).w) (hc k hk)).1
 ·exact(pc_w hk (fun x h=>(hw x h).w) (hc k hk)).2
abbrev Cz:List Stp:=[.ev 0,.ev 2,.ef 1,.ef 3,.ev 4]
def gS{φ ψ:Prop}(k:ψ)(h:Hid ψ→φ:=by intro k;first|refine GO.ci (f:=116) (Hid.out k)|refine GPW.ci (f:=116) (Hid.out k)|refine GO.cf (f:=116) rfl (Hid.out k)|refine GPW.cf (f:=116) rfl (Hid.out k)|refine KX.inA (Hid.out k)):φ:=h ⟨k⟩
def gR{φ ψ:Prop}(k:ψ)(h:Hid ψ→φ:=by intro k;(with_reducible apply G.a8);first|refine G.dr 17 3 Cz (Hid.out k)):φ:=h ⟨k⟩
def Xv{φ ψ:Prop}(k:ψ)(h:Hid ψ→φ:=by intro k;(repeat (first|refine aa ?_|intro zzz|refine gR ?_|refine gS ?_));(repeat revert zzz);exact Hid.out k):φ:=h ⟨k⟩
def Fm{L:LH}(ad:OA)(cap:Nat)(xs:LL)(x:Lot)(hl:xs.length≤4096)(a4:∀l∈xs,LotOk l)(hx:LotOk x) :
  Tri Tryz.prog 195 #[ag ad xs.length cap,aU (aG x)] (isl aG 3 ad xs::L) (fun v L'=>∃a3 a0,v=ag a3 (bN xs x).length a0∧L' = osl aG 3 tLot a3 a0 (bN xs x)::isl aG 3 ad xs::L):=by
 have a7:=hx;obtain⟨o1,o2,o3,o4,o5⟩:=a7;refine Tri.bd ?_;refine Xv ?_;intros;refine GO.cr (gF ad xs.length cap xs rfl hl a4) ?_;refine Xv ?_;intros;rw[bE o5];refine Xv ?_;intros;refine GPW.ca (iv ad xs.length cap xs rfl ab) ?_;rintro _ _⟨a5,a1,rfl,rfl⟩;refine Xv ?_;intros;refine GPW.ca (qs a5 a1 xs x ab (fun y h=>(a4 y h).w) hx.w) ?_;rintro _ _⟨a6,a2,rfl,rfl⟩;refine Xv ?_;intros;exact KX.en ⟨a6,a2,rfl,rfl⟩
def shQ(l:LL)(n:Int)(k:Nat):Int:=n*l[k]!.2.2 / lsum l
def shR(l:LL)(n:Int)(k:Nat):Int:=n*l[k]!.2.2 % lsum l
def HJ(l:LL)(n:Int)(k:Nat):Nat:=((List.range l.length).filter (fun j=>decide (shR l n k<shR l n j∨(shR l n j=shR l n k∧j<k)))).length
def iS(l:LL)(n:Int):Int:=n - (List.range l.length).foldl (fun s k=>s+shQ l n k) 0
def shC(l:LL)(n:Int)(k:Nat):Int:=shQ l n k+(if(HJ l n k:Int)<iS l n then 1 else 0)
def tkC(mixed:Bool)(l:LL)(n:Int):Nat→Int:=if mixed=true∧0<n then shC l n else fuC l n
def mP(mixed:Bool)(l:LL)(n:Int):LL:=divF l (tkC mixed l n) l.length
def kZ(mixed:Bool)(l:LL)(n:Int):LL:=divR l (tkC mixed l n) l.length
structure TakeC (mixed:Bool):Prop where
 bd:∀(l:LL) (n:Int),(∀x∈l,LotOk x)→0≤n→n≤lsum l→∀k,k<l.length→0≤tkC mixed l n k∧tkC mixed l n k≤l[k]!.2.2
 tri:∀(L:LH) (ad:OA) (c:Nat) (xs:LL) (n:Int),xs.length≤4096→(∀l∈xs,LotOk l)→0≤n→n≤1099511627776 →
  Tri Tryz.prog 300 #[ag ad xs.length c,ac n,.bool mixed] (isl aG 3 ad xs::L) (fun v L' =>
   (lsum xs<n∧v=.tuple #[ag none 0 0,ag none 0 0,ac 10]∧L' = isl aG 3 ad xs::L) ∨
   (n≤lsum xs∧∃ad1 c1 ad2 c2,v=.tuple #[ag ad1 (mP mixed xs n).length c1,ag ad2 (kZ mixed xs n).length c2,ac 0]∧L' = osl aG 3 tLot ad1 c1 (mP mixed xs n)::osl aG 3 tLot ad2 c2 (kZ mixed xs n)::isl aG 3 ad xs::L))
def zo:TakeC false where
 bd:=fun l n hl h0 _ k hk=>qx h0 (fun x h=>(hl x h).w) k hk
 tri:=fun _ ad c xs n h1 h2 h3 h4=>Cm ad c xs n false rfl h1 h2 h3 h4
structure ChX where
 cs:Nat
 ct:Nat
 ci:Nat
 cr:Nat
 stk:List ((Int×Int)×Stk)
 tot:List (Int×Int)
 flows:List FlV
 fad:OA
 fcap:Nat
 sunk:List Int
 kad:OA
 kcap:Nat
abbrev tCh:Nat:=178
def curS(x:LedX)(z:ChX)(k:Int×Int):Stk:=(glk z.stk k).getD (gI x.stk k)
def ui{κ:Type}[DecidableEq κ](m:List (κ×Stk))(k:κ):((@List.lookup _ _ instBEqOfDecidableEq k m).map Stk.v).getD (ag none 0 0)=(gI m k).v:=by
 unfold gI glk;cases @List.lookup _ _ instBEqOfDecidableEq k m<;>rfl
def uZ{κ:Type}[DecidableEq κ]{m:List (κ×Stk)}(k:κ){L:LH}:Ent (allP (fun p:κ×Stk=>stkP p.2) m::L) (stkP (gI m k)::allP (fun p:κ×Stk=>stkP p.2) m::L):=by
 unfold gI;cases h:glk m k with
 | none=>exact Ent.d9 aG 3 none
 | some s=>exact Ent.c9 (f:=fun p:κ×Stk=>stkP p.2) (x:=(k,s)) (cu h)
structure WdOk (x:LedX) (z:ChX) (m:MvM):Prop where
 item:0≤m.item∧m.item<x.cat.items.length
 n:0≤m.n∧m.n≤1099511627776
 parts:m.parts.length=0
 len:(curS x z (m.frm,m.item)).lots.length≤4096
 lots:∀l∈(curS x z (m.frm,m.item)).lots,LotOk l
def cU(x:LedX)(i:Int):Bool:=x.cat.items[i.toNat]!.mixed
