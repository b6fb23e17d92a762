/- Lemmas. -/
import Derived.Test.YtommnllbflbdmaaGreatDoorIbb
set_option linter.all false
set_option maxHeartbeats 4000000
namespace Go.Proofs.YtommnllbflbdmaaGreatDoor
section
open Go.V
attribute [local irreducible] G GO GP GPW GPK Ev Ef EfR Ent CB GB V.Enters
def FlOk(fl:List FlV):Prop:=fl.length≤9000000∧∀f∈fl,(∀x∈f.m.parts,LotOk x)∧f.m.parts.length≤2047
def ly(fl:List FlM)(p:Lot):Prop:=∃f∈fl,f.kind=5∧fL f.parts [p]≠[]
instance (fl:List FlM)(p:Lot):Decidable (ly fl p):=by unfold ly;infer_instance
def arr1(sh:Int)(fl:List FlM)(p:Lot):Int:=if p.1 / 4294967296=sh∨11<p.1 / 4294967296 then 1 else if ly fl p then 8 else 0
def arrG(sh:Int)(fl:List FlM):LL→Int
 | []=>0
 | p::ps=>if arr1 sh fl p=0 then arrG sh fl ps else arr1 sh fl p
def kj(fl:List FlM)(item:Int)(p:Lot):Prop:=(¬ ∃f∈fl,f.kind=9∧f.frm=0∧fL f.parts [p]≠[])∧∃f∈fl,f.kind≠6∧f.to=0∧f.item=item∧fV [p] [(f.id,0,f.n)]
instance (fl:List FlM)(item:Int)(p:Lot):Decidable (kj fl item p):=by unfold kj;infer_instance
def revG(fl:List FlM)(item:Int)(ps:LL):Int:=if ∀p∈ps,kj fl item p then 0 else 10
def mo{p:Lot}(h:LotOk p):fg [p]:=⟨fun x hx=>by rw[List.mem_singleton.1 hx];exact h,by show 1≤4096;omega⟩
def Aj{fl:List FlV}(h:FlOk fl){p:Lot}(hp:LotOk p){f:FlV}(hf:f∈fl):fg f.m.parts∧(fA f.m.parts [p]).length≤4096:=by
 obtain⟨h1,h2⟩:=h.2 f hf;refine⟨⟨h1,ab⟩,?_⟩;have:=(jG h1 (mo hp).1).2
 rw[be] at this;omega
def uw{fl:List FlV}{k:Nat}(h:k<fl.length){L:LH}:Ent (allP flP fl::L) (isl ao 3 fl[k]!.pad fl[k]!.m.parts::isl (encZ .i64) 1 fl[k]!.mad fl[k]!.m.made::allP flP fl::L):=(Ent.d8 (f:=flP) (aG h)).trans Ent.andE
def nW{xs:LL}{i:Nat}(h:i<xs.length):(xs.drop i).take 1=[xs[i]!]:=by
 rw[dF h];rfl
abbrev yA:List Stp:=[.ev 0,.ev 1,.ev 2,.ev 3,.ev 4,.ev 5,.ev 6,.ev 7,.ev 8,.ev 9,.ev 10,.ev 11,.ev 12,.ev 13,.ev 14,.ev 15,.ev 16,.ev 17,.ev 18,.ev 19,.ev 20,.ev 21,.ev 22,.ef 23,.ev 24,.ev 25,.ev 26]
def Qu{φ ψ:Prop}(k:ψ)(h:Hid ψ→φ:=by intro k;(repeat (first|refine aa ?_|intro zzz|((with_reducible apply G.d8);first|refine G.d7 (N:=66) (id:=10) yA mixed aw ?_)));(repeat revert zzz);exact Hid.out k):φ:=h ⟨k⟩
def wc{L:LH}(b:Nat)(sh:Int)(x:RLX)(a8:FlOk x.flows)(ad:OA)(n c:Nat)(ps:LL)[hr:Rds L ad Lot ao 3 ps](hn:n=ps.length)(hc:ps.length≤c)(hv:∀p∈ps,LotOk p)(hb:∀p∈ps,p.1≤9223372036854775807)(hl:ps.length≤4096) :
  Tri ag 227 #[av b,.slice ad n c] (rlL b sh x L) (fun v L'=>v=ac (arrG sh (x.flows.map FlV.m) ps)∧L' = rlL b sh x L):=by
 subst hn;have b3:=a8.1;refine Tri.bd ?_;simp only[rlL,aI];refine Qu ?_;intros;refine G.loop (α:=Nat) (fun i=>i≤ps.length∧arrG sh (x.flows.map FlV.m) ps=arrG sh (x.flows.map FlV.m) (ps.drop i)) (fun i=>[(0,av b),(1,.slice ad ps.length c),(5,ac (i:Int))]) (fun _=>rlL b sh x L) (fun i=>ps.length - i) 0 ⟨aj _,rfl⟩ ai (by simp only[rlL,aI];exact ae) ?_;rintro i ⟨hi,he⟩;simp only[rlL,aI];by_cases a9:i<ps.length
 case neg =>
  have e0:ps.drop i=[]:=bg ab;rw[e0] at he;refine Qu ?_;intros;exact KX.d7 an ae ⟨by rw[he];rfl,rfl⟩
 have a5:(i:Int).toNat=i:=ay i;have a3 : (i:Int).toNat<ps.length:=ab;have a6:=hv _ (aG a3);have b5:=a6.1;have b7:=hb _ (aG a3);have b1:ps.drop i=ps[(i:Int).toNat]!::ps.drop (i+1):=by rw[a5];exact dF a9
 rw[b1] at he
 haveI hrd:Rds L (advA ad c 3 i) Lot ao 3 [ps[(i:Int).toNat]!]:=by
  have h:=Rds.take (Rds.drop hr hc i) 1;rwa [nW a9,←a5,a5] at h
 have a4:arrG sh (x.flows.map FlV.m) (ps[(i:Int).toNat]!::ps.drop (i+1))=if arr1 sh (x.flows.map FlV.m) ps[(i:Int).toNat]! = 0 then arrG sh (x.flows.map FlV.m) (ps.drop (i+1)) else arr1 sh (x.flows.map FlV.m) ps[(i:Int).toNat]!:=rfl;rw[a4] at he;refine Qu ?_;intros;generalize hpg:ps[(i:Int).toNat]! = p at *;by_cases h1:p.1 / 4294967296=sh
 ·have e1:arr1 sh (x.flows.map FlV.m) p=1:=if_pos (.inl h1);rw[e1,if_neg ah] at he;refine Qu ?_;intros;exact KX.d7 an ae ⟨by rw[he];rfl,rfl⟩
 by_cases h2:11<p.1 / 4294967296
 ·have e1:arr1 sh (x.flows.map FlV.m) p=1:=if_pos (.inr h2);rw[e1,if_neg ah] at he;refine Qu ?_;intros;exact KX.d7 an ae ⟨by rw[he];rfl,rfl⟩
 have e1:arr1 sh (x.flows.map FlV.m) p=if ly (x.flows.map FlV.m) p then 8 else 0:=if_neg (fun q=>q.elim h1 h2);rw[e1] at he;refine Qu ?_;intros;refine G.loop (α:=Nat) (fun k=>k≤x.flows.length∧∀j,j<k→¬(x.flows[j]!.m.kind=5∧fL x.flows[j]!.m.parts [p]≠[])) (fun k=>[(0,av b),(1,.slice ad ps.length c),(5,ac (i:Int)),(7,ac (k:Int))]) (fun _=>rlL b sh x L) (fun k=>x.flows.length - k) 0 ⟨aj _,fun j hj=>absurd hj (bJ j)⟩ ai (by simp only[rlL,aI];exact ae) ?_;rintro k ⟨hk,a1⟩;simp only[rlL,aI];by_cases b6:k<x.flows.length
 case neg =>
  have b2:¬ly (x.flows.map FlV.m) p:=by
   rintro⟨f,hf,h3,h4⟩;obtain⟨u,hu,rfl⟩:=List.mem_map.1 hf;obtain⟨j,hj,rfl⟩:=List.mem_iff_getElem.1 hu;refine a1 j ab ?_;rw[getElem!_of hj];exact⟨h3,h4⟩
  rw[if_neg b2,if_pos rfl] at he;refine Qu ?_;intros;refine⟨i+1,⟨ab,he⟩,ab,?_,?_⟩
  ·rw[aK i];exact ai
  ·try simp only[rlL,aI]
   exact ae
 have b4:(k:Int).toNat=k:=ay k;have a2 : (k:Int).toNat<x.flows.length:=ab;have b0:=Aj a8 a6 (aG a2)
 have a0:¬(x.flows[(k:Int).toNat]!.m.kind=5∧fL x.flows[(k:Int).toNat]!.m.parts [p]≠[])→∀j,j<k+1→¬(x.flows[j]!.m.kind=5∧fL x.flows[j]!.m.parts [p]≠[]):=fun h j hj=>by
  rcases ce j k with h3|h3
  ·exact a1 j h3
  ·obtain rfl:j=k:=ab;rw[b4] at h;exact h
 by_cases h3:x.flows[(k:Int).toNat]!.m.kind=5
 case neg =>
  refine Qu ?_;intros;refine⟨k+1,⟨ab,a0 (fun q=>h3 q.1)⟩,ab,?_,?_⟩
  ·rw[aK k];exact ai
  ·try simp only[rlL,aI]
   exact ae
 refine G.ent (L':=isl ao 3 x.flows[(k:Int).toNat]!.pad x.flows[(k:Int).toNat]!.m.parts::rlL b sh x L) ((Ent.at (A:=allP flP x.flows) (uw a2)).trans (by simp only[rlL,aI];exact ae)) ?_;simp only[rlL,aI];refine Qu ?_;intros;rw[a5,show((i:Int)+1).toNat - i=1 by omega];refine GPW.ca (ol x.flows[(k:Int).toNat]!.pad x.flows[(k:Int).toNat]!.m.parts.length x.flows[(k:Int).toNat]!.pcap x.flows[(k:Int).toNat]!.m.parts (advA ad c 3 i) 1 _ [p] rfl rfl b0.1 (mo a6) b0.2) ?_;rintro _ _⟨ad2,c2,rfl,rfl⟩;by_cases h4:fL x.flows[(k:Int).toNat]!.m.parts [p]=[]
 ·have h5:((fL x.flows[(k:Int).toNat]!.m.parts [p]).length:Int)=0:=by rw[h4];rfl
  refine Qu ?_;intros;refine⟨k+1,⟨ab,a0 (fun q=>q.2 h4)⟩,ab,?_,?_⟩
  ·rw[aK k];exact ai
  ·try simp only[rlL,aI]
   exact ae
 ·have h5:0<((fL x.flows[(k:Int).toNat]!.m.parts [p]).length:Int):=by
   have:=List.length_pos_iff.2 h4
   omega
  have a7:ly (x.flows.map FlV.m) p:=⟨x.flows[(k:Int).toNat]!.m,alStd0List_mem_map_of_mem (aG a2),h3,h4⟩;rw[if_pos a7,if_neg ah] at he;refine Qu ?_;intros;exact KX.d7 an ae ⟨by rw[he];rfl,rfl⟩
def gotP(f:FlM)(item:Int)(p:Lot):Prop:=f.kind≠6∧f.to=0∧f.item=item∧fV [p] [(f.id,0,f.n)]
def gotN(fl:List FlV)(item:Int)(p:Lot)(k:Nat):Prop:=∃j,j<k∧gotP fl[j]!.m item p
noncomputable instance (fl:List FlV) (item:Int) (p:Lot) (k:Nat):Decidable (gotN fl item p k):=Classical.propDecidable _
def DK(fl:List FlV)(item:Int)(p:Lot):¬gotN fl item p 0:=fun⟨_,hj,_⟩=>absurd hj (bJ _)
def DL{fl:List FlV}{item:Int}{p:Lot}{k:Nat}:gotN fl item p (k+1)↔gotN fl item p k∨gotP fl[k]!.m item p:=by
 constructor
 ·rintro⟨j,hj,h⟩;rcases ce j k with h3|h3
  ·exact .inl ⟨j,h3,h⟩
  ·obtain rfl:j=k:=ab;exact .inr h
 ·rintro (⟨j,hj,h⟩|h)
  ·exact⟨j,ab,h⟩
  ·exact⟨k,ab,h⟩
abbrev yz:List Stp:=[.ev 0,.ev 1,.ev 2,.ev 3,.ev 4,.ev 5,.ev 6,.ev 7,.ev 8,.ev 9,.ev 10,.ev 11,.ev 12,.ev 13,.ev 14,.ev 15,.ev 16,.ef 17,.ev 18,.ev 19,.ev 20]
def cQ{φ ψ:Prop}(k:ψ)(h:Hid ψ→φ:=by intro k;(with_reducible apply G.d8);first|refine G.d7 (N:=89) (id:=13) yz mixed aw (Hid.out k)):φ:=h ⟨k⟩
def QF{φ ψ:Prop}(k:ψ)(h:Hid ψ→φ:=by intro k;(repeat (first|refine aa ?_|intro zzz|((with_reducible apply G.d8);first|refine G.d7 (N:=89) (id:=13) yz mixed aw ?_)));(repeat revert zzz);exact Hid.out k):φ:=h ⟨k⟩
def vT{L:LH}(b:Nat)(sh:Int)(x:RLX)(a8:FlOk x.flows)(m:MvV)[hr:Rds L m.pad Lot ao 3 m.m.parts](hc:m.m.parts.length≤m.pcap)(hv:∀p∈m.m.parts,LotOk p)(hl:m.m.parts.length≤4096) :
  Tri ag 228 #[av b,.agg (aQ m).toArray] (rlL b sh x L) (fun v L'=>v=ac (revG (x.flows.map FlV.m) m.m.item m.m.parts)∧L' = rlL b sh x L):=by
 obtain⟨⟨frm,to,item,n,ps⟩,ad,c⟩:=m;dsimp only at hr hc hv hl;have c1:=a8.1;have a5:∀{p:Lot},p∈ps→¬kj (x.flows.map FlV.m) item p→revG (x.flows.map FlV.m) item ps=10:=fun hp h=>if_neg (fun q=>h (q _ hp));refine Tri.bd (args:=[av b,.agg (aQ ⟨⟨frm,to,item,n,ps⟩,ad,c⟩).toArray]) ?_;simp only[rlL,aI,aQ];refine QF ?_;intros;rename_i b3;refine G.loop (α:=Nat) (fun i=>i≤ps.length∧∀j,j<i→kj (x.flows.map FlV.m) item ps[j]!) (fun i=>[(0,av b),(3,av b3),(5,ac (i:Int))]) (fun _=>rlL b sh x (obj b3 tMv [ac frm,ac to,ac item,ac n,.slice ad ps.length c]::L)) (fun i=>ps.length - i) 0 ⟨aj _,fun j hj=>absurd hj (bJ j)⟩ ai (by simp only[rlL,aI];exact ae) ?_;rintro i ⟨hi,a3⟩;simp only[rlL,aI];by_cases b1:i<ps.length
 case neg =>
  have e0:revG (x.flows.map FlV.m) item ps=0:=if_pos (fun p hp=>by
   obtain⟨j,hj,rfl⟩:=List.mem_iff_getElem.1 hp;have:=a3 j ab
   rwa [getElem!_of hj] at this)
  rw[e0];refine QF ?_;intros;exact KX.en ⟨rfl,rfl⟩
 have b5:(i:Int).toNat=i:=ay i;have a6:=aG b1;have b0:=hv _ a6
 haveI hrd:Rds L (advA ad c 3 i) Lot ao 3 [ps[i]!]:=by
  have h:=Rds.take (Rds.drop hr hc i) 1;rwa [nW b1] at h
 generalize hpg:ps[i]! = p at *;refine QF ?_;intros;refine G.loop (α:=Nat) (fun k=>k≤x.flows.length∧∀j,j<k→¬(x.flows[j]!.m.kind=9∧x.flows[j]!.m.frm=0∧fL x.flows[j]!.m.parts [p]≠[])) (fun k=>[(0,av b),(3,av b3),(5,ac (i:Int)),(6,.bool (dB (gotN x.flows item p k))),(7,ac (k:Int))]) (fun _=>rlL b sh x (obj b3 tMv [ac frm,ac to,ac item,ac n,.slice ad ps.length c]::L)) (fun k=>x.flows.length - k) 0 ⟨aj _,fun j hj=>absurd hj (bJ j)⟩ ?_ (by simp only[rlL,aI];exact ae) ?_
 ·rw[aH (DK _ _ _)];exact ai
 rintro k ⟨hk,a2⟩;simp only[rlL,aI];by_cases a9:k<x.flows.length
 case neg =>
  obtain rfl:k=x.flows.length:=ab
  have c3:¬ ∃f∈x.flows.map FlV.m,f.kind=9∧f.frm=0∧fL f.parts [p]≠[]:=by
   rintro⟨f,hf,h3⟩;obtain⟨u,hu,rfl⟩:=List.mem_map.1 hf;obtain⟨j,hj,rfl⟩:=List.mem_iff_getElem.1 hu;refine a2 j hj ?_;rw[getElem!_of hj];exact h3
  have a4:gotN x.flows item p x.flows.length↔kj (x.flows.map FlV.m) item p:=by
   constructor
   ·rintro⟨j,hj,h3⟩;exact⟨c3,_,alStd0List_mem_map_of_mem (aG hj),h3⟩
   ·rintro⟨_,f,hf,h3⟩;obtain⟨u,hu,rfl⟩:=List.mem_map.1 hf;obtain⟨j,hj,rfl⟩:=List.mem_iff_getElem.1 hu;refine⟨j,hj,?_⟩;rw[getElem!_of hj];exact h3
  by_cases hb:kj (x.flows.map FlV.m) item p
  ·rw[aT (a4.2 hb)];refine QF ?_;intros;refine⟨i+1,⟨ab,fun j hj=>?_⟩,ab,?_,?_⟩
   ·rcases ce j i with h3|h3
    ·exact a3 j h3
    ·obtain rfl:j=i:=ab;rw[hpg];exact hb
   ·rw[aK i];exact ai
   ·try simp only[rlL,aI]
    exact ae
  ·rw[aH (fun q=>hb (a4.1 q)),a5 a6 hb];refine QF ?_;intros;exact KX.en ⟨rfl,rfl⟩
 have b7:(k:Int).toNat=k:=ay k;have b6 : (k:Int).toNat<x.flows.length:=ab;have b4:=aG a9;have b2:=Aj a8 b0 b4;refine G.ent (L':=isl ao 3 x.flows[k]!.pad x.flows[k]!.m.parts::rlL b sh x (obj b3 tMv [ac frm,ac to,ac item,ac n,.slice ad ps.length c]::L)) ((Ent.at (A:=allP flP x.flows) (uw a9)).trans (by simp only[rlL,aI];exact ae)) ?_;simp only[rlL,aI];refine QF ?_;intros;rw[b7];have a7:=DL (fl:=x.flows) (item:=item) (p:=p) (k:=k)
 have a0:¬(x.flows[k]!.m.kind=9∧x.flows[k]!.m.frm=0∧fL x.flows[k]!.m.parts [p]≠[])→∀j,j<k+1→¬(x.flows[j]!.m.kind=9∧x.flows[j]!.m.frm=0∧fL x.flows[j]!.m.parts [p]≠[]):=fun h j hj=>by
  rcases ce j k with h3|h3
  ·exact a2 j h3
  ·obtain rfl:j=k:=ab;exact h
 have c0:x.flows[k]!.m.kind=9∧x.flows[k]!.m.frm=0∧fL x.flows[k]!.m.parts [p]≠[]→¬kj (x.flows.map FlV.m) item p:=fun h q=>q.1 ⟨_,alStd0List_mem_map_of_mem b4,h⟩;generalize hf:x.flows[k]! = f at *;simp only[aM];refine QF ?_;intros;rename_i b8 b9;rw[b5,show((i:Int)+1).toNat - i=1 by omega];refine GO.ent (L':=osl ao 3 tLot (some ⟨b9,0,none⟩) 1 [(f.m.id,0,f.m.n)]::obj b8 bY (aM f)::isl ao 3 f.pad f.m.parts::rlL b sh x (obj b3 tMv [ac frm,ac to,ac item,ac n,.slice ad ps.length c]::L)) ?_ ?_
 ·refine Ent.trans (B:=obj b9 tLot (ao (f.m.id,0,f.m.n))::obj b8 bY (aM f)::isl ao 3 f.pad f.m.parts::rlL b sh x (obj b3 tMv [ac frm,ac to,ac item,ac n,.slice ad ps.length c]::L)) (by simp only[rlL,aI,ao,aM];exact ae) ?_;exact Ent.g7 (enc:=ao) (sz:=3) (xs:=[(f.m.id,0,f.m.n)]) (by simp) rfl (by intro z hz;rw[List.mem_singleton.1 hz];rfl) (by simp)
 simp only[rlL,aI];refine GO.cr (pf (advA ad c 3 i) 1 _ [p] (some ⟨b9,0,none⟩) 1 1 [(f.m.id,0,f.m.n)] rfl rfl ah ah) ?_;repeat first|((fail_if_success (with_reducible refine G.e7 11 ?_));(with_reducible apply G.seq))|refine bA ?_|intro _|refine cQ ?_
 refine G.d9 (α:=Unit) (fun _=>True) (fun _=>[(0,av b),(3,av b3),(5,ac (i:Int)),(6,.bool (dB (gotN x.flows item p (k+1)))),(7,ac (k:Int)),(8,av b8)]) (fun _=>obj b8 bY (aM f)::isl ao 3 f.pad f.m.parts::rlL b sh x (obj b3 tMv [ac frm,ac to,ac item,ac n,.slice ad ps.length c]::L)) ?_ ?_
 ·have a1:∀{q:Prop},¬q→(gotP f.m item p→q)→dB (gotN x.flows item p k)=dB (gotN x.flows item p (k+1)):=fun h1 h2=>by
   have h3:gotN x.flows item p (k+1)↔gotN x.flows item p k:=⟨fun h=>(a7.1 h).resolve_right (fun r=>h1 (h2 r)),fun h=>a7.2 (.inl h)⟩;by_cases h4:gotN x.flows item p k
   ·rw[aT h4,aT (h3.2 h4)]
   ·rw[aH h4,aH (fun r=>h4 (h3.1 r))]
  simp only[aM];by_cases g1:f.m.kind=6
  ·rw[a1 (fun q=>q g1) (fun r=>r.1)];refine QF ?_;intros;exact⟨(),trivial,ai,by exact ae⟩
  by_cases g2:f.m.to=0
  case neg =>
   rw[a1 g2 (fun r=>r.2.1)];refine QF ?_;intros;exact⟨(),trivial,ai,by exact ae⟩
  by_cases g3:f.m.item=item
  case neg =>
   rw[a1 g3 (fun r=>r.2.2.1)];refine QF ?_;intros;exact⟨(),trivial,ai,by exact ae⟩
  by_cases g4:fV [p] [(f.m.id,0,f.m.n)]
  case neg =>
   rw[a1 g4 (fun r=>r.2.2.2),aH g4];refine QF ?_;intros;exact⟨(),trivial,ai,by exact ae⟩
  rw[aT g4,aT (a7.2 (.inr ⟨g1,g2,g3,g4⟩))];refine QF ?_;intros;exact⟨(),trivial,ai,by exact ae⟩
 rintro _ _;simp only[rlL,aI,aM];by_cases g1:f.m.kind=9
 case neg =>
  refine QF ?_;intros;refine⟨k+1,⟨ab,a0 (fun q=>g1 q.1)⟩,ab,?_,?_⟩
  ·rw[aK k];exact ai
  ·try simp only[rlL,aI]
   exact ae
 by_cases g2:f.m.frm=0
 case neg =>
  refine QF ?_;intros;refine⟨k+1,⟨ab,a0 (fun q=>g2 q.2.1)⟩,ab,?_,?_⟩
  ·rw[aK k];exact ai
  ·try simp only[rlL,aI]
   exact ae
 refine QF ?_;intros;rw[b5,show((i:Int)+1).toNat - i=1 by omega];refine GPW.ca (ol f.pad f.m.parts.length f.pcap f.m.parts (advA ad c 3 i) 1 _ [p] rfl rfl b2.1 (mo b0) b2.2) ?_;rintro _ _⟨ad2,c2,rfl,rfl⟩;by_cases h4:fL f.m.parts [p]=[]
 ·have h5:((fL f.m.parts [p]).length:Int)=0:=by rw[h4];rfl
  refine QF ?_;intros;refine⟨k+1,⟨ab,a0 (fun q=>q.2.2 h4)⟩,ab,?_,?_⟩
  ·rw[aK k];exact ai
  ·try simp only[rlL,aI]
   exact ae
 ·have h5:0<((fL f.m.parts [p]).length:Int):=by
   have:=List.length_pos_iff.2 h4
   omega
  rw[a5 a6 (c0 ⟨g1,g2,h4⟩)];refine QF ?_;intros;exact KX.en ⟨rfl,rfl⟩
end
section
open Go.V
def gM(x:Lot)(l:LL):lsum (x::l)=x.2.2+lsum l:=by
 have:=gA [x] l
 rw[gZ] at this;exact this
def iD:lsum ([]:LL)=0:=rfl
def ov(x y:Lot):Int:=if x.1=y.1 then max 0 (min (x.2.1+x.2.2) (y.2.1+y.2.2) - max x.2.1 y.2.1) else 0
def Gb(x y:Lot):ov x y=ov y x:=by
 unfold ov;by_cases h:x.1=y.1
 ·rw[if_pos h,if_pos h.symm];omega
 ·rw[if_neg h,if_neg (fun q=>h q.symm)]
def BP(x y:Lot):0≤ov x y:=by
 unfold ov;split<;>omega
def qf{x y:Lot}(hx:LotOk x)(hy:LotOk y):ov x y=0↔apart x y:=by
 unfold LotOk at hx hy;unfold ov apart;split<;>omega
def OV:LL→Lot→Int
 | [],_=>0
 | x::l,y=>ov x y+OV l y
def vv:∀(l:LL) (y:Lot),0≤OV l y
 | [],_=>bj _
 | x::l,y=>by
  have:=vv l y
  have:=BP x y
  show 0≤ov x y+OV l y;omega
def jh:∀(a b:LL) (y:Lot),OV (a++b) y=OV a y+OV b y
 | [],b,y=>by show OV b y=0+OV b y;omega
 | x::a,b,y=>by
  have:=jh a b y
  show ov x y+OV (a++b) y=ov x y+OV a y+OV b y;omega
def kX(x y:Lot):OV [x] y=ov x y:=by show ov x y+0=ov x y;omega
def tQ:∀{l:LL} {y:Lot},OV l y=0→∀x∈l,ov x y=0
 | x::l,y,h,z,hz=>by
  have h1:=vv l y;have h2:=BP x y;have h3:ov x y+OV l y=0:=h;rcases List.mem_cons.1 hz with rfl|hz
  ·omega
  ·exact tQ ab z hz
def OO(l:LL):LL→Int
 | []=>0
 | x::s=>OV l x+OO l s
def tR(y:Lot)(l:LL):∀s,OO (y::l) s=OO [y] s+OO l s
 | []=>rfl
 | x::s=>by
  have:=tR y l s
  have e:=kX y x;show(ov y x+OV l x)+OO (y::l) s=(OV [y] x+OO [y] s)+(OV l x+OO l s);omega
def xE:∀s,OO [] s=0
 | []=>rfl
 | x::s=>by
  have:=xE s
  show 0+OO [] s=0;omega
def Ew(y:Lot):∀s,OO [y] s=OV s y
 | []=>rfl
 | x::s=>by
  have:=Ew y s
  have e:=kX y x;have c:=Gb x y;show OV [y] x+OO [y] s=ov x y+OV s y;omega
def Az:∀l s,OO l s=OO s l
 | [],s=>xE s
 | y::l,s=>by
  rw[tR,Ew,Az l s];rfl
def EC{x y:Lot}(hx:LotOk x)(hy:LotOk y):lsum (subS x y)=y.2.2 - ov y x:=by
 unfold LotOk at hx hy;unfold subS ov;by_cases hc:y.1≠x.1∨x.2.1+x.2.2≤y.2.1∨y.2.1+y.2.2≤x.2.1
 ·rw[if_pos hc,gZ];by_cases hf:y.1=x.1
  ·rw[if_pos hf];omega
  ·rw[if_neg hf];omega
 ·have hf:y.1=x.1:=ab;rw[if_neg hc,if_pos hf,gA];by_cases g1:y.2.1<x.2.1
  ·rw[if_pos g1,gZ];by_cases g2:x.2.1+x.2.2<y.2.1+y.2.2
   ·rw[if_pos g2,gZ];dsimp only;omega
   ·rw[if_neg g2,iD];dsimp only;omega
  ·rw[if_neg g1,iD];by_cases g2:x.2.1+x.2.2<y.2.1+y.2.2
   ·rw[if_pos g2,gZ];dsimp only;omega
   ·rw[if_neg g2,iD];omega
def FN{x y t:Lot}(hx:LotOk x)(hy:LotOk y)(ht:LotOk t)(h:apart x t):OV (subS x y) t=ov y t:=by
 unfold LotOk at hx hy ht;unfold apart at h;unfold subS;split
 ·exact kX y t
 ·rename_i hn;rw[jh];by_cases hf:x.1=t.1
  ·have a0:y.1=t.1:=ab;split<;>split<;>simp only[kX,OV,ov,if_pos hf,if_pos a0]<;>omega
  ·have a0:¬y.1=t.1:=ab;split<;>split<;>simp only[kX,OV,ov,if_neg hf,if_neg a0]<;>omega
def qT{x:Lot}(hx:LotOk x):∀{l:LL},(∀y∈l,LotOk y)→lsum (subL l x)=lsum l - OV l x
 | [],_=>rfl
 | y::l,h=>by
  have e:subL (y::l) x=subS x y++subL l x:=bP;have ih:=qT hx (l:=l) (fun z hz=>h z (aq _ hz));have h1:=EC hx (h y au);rw[e,gA,gM,ih,h1];show _=y.2.2+lsum l - (ov y x+OV l x);omega
def zT{x t:Lot}(hx:LotOk x)(ht:LotOk t)(ha:apart x t):∀{l:LL},(∀y∈l,LotOk y)→OV (subL l x) t=OV l t
 | [],_=>rfl
 | y::l,h=>by
  have e:subL (y::l) x=subS x y++subL l x:=bP;have ih:=zT hx ht ha (l:=l) (fun z hz=>h z (aq _ hz));rw[e,jh,ih,FN hx (h y au) ht ha];rfl
def Ao:∀{set l:LL},(∀x∈set,LotOk x)→(∀y∈l,LotOk y)→Apart set→lsum (set.foldl subL l)=lsum l - OO l set
 | [],l,_,_,_=>by show lsum l=lsum l - 0;omega
 | x::set,l,hs,hl,ha=>by
  obtain⟨a1,a2⟩:=List.pairwise_cons.1 ha;have hx:=hs x au;have a0:∀z∈set,LotOk z:=fun z hz=>hs z (aq _ hz);have ih:=Ao (set:=set) (l:=subL l x) a0 (pZ hx hl) a2
  have a3:∀{s:LL},(∀z∈s,LotOk z)→(∀z∈s,apart x z)→OO (subL l x) s=OO l s:=fun {s}=>by
   induction s with
   | nil=>intro _ _;rfl
   | cons z s ih2 =>
    intro g1 g2;have h1:=zT hx (g1 z au) (g2 z au) hl;have h2:=ih2 (fun q hq=>g1 q (aq _ hq)) (fun q hq=>g2 q (aq _ hq));show OV (subL l x) z+OO (subL l x) s=OV l z+OO l s;omega
  have h3:=qT hx hl;have h4:=a3 a0 a1;show lsum (set.foldl subL (subL l x))=lsum l - (OV l x+OO l set);omega
def uj:∀(r out:LL),lsum (r.foldl ba out)=lsum out+lsum r
 | [],out=>by show lsum out=lsum out+0;omega
 | x::r,out=>by
  have:=uj r (ba out x)
  rw[oA] at this;rw[gM];show lsum (r.foldl ba (ba out x))=_;omega
def vA{set:LL}(hs:∀x∈set,LotOk x)(ha:Apart set):∀{s out:LL},(∀y∈s,LotOk y)→lsum (s.foldl (fun out y=>(fD set y).foldl ba out) out)=lsum out+lsum s - OO s set
 | [],out,_=>by rw[xE];show lsum out=lsum out+0 - 0;omega
 | y::s,out,h=>by
  have hy:=h y au;have ih:=vA hs ha (s:=s) (out:=(fD set y).foldl ba out) (fun z hz=>h z (aq _ hz));have h1:lsum (fD set y)=lsum [y] - OO [y] set:=Ao hs (fun z hz=>by rw[List.mem_singleton.1 hz];exact hy) ha;rw[gZ] at h1;rw[uj,h1] at ih;rw[gM,tR];show lsum (s.foldl _ ((fD set y).foldl ba out))=_;omega
def mN{s set:LL}(h:∀y∈s,LotOk y)(hs:∀x∈set,LotOk x)(ha:Apart set):lsum (el s set)=lsum s - OO s set:=by
 have:=vA hs ha (s:=s) (out:=[]) h
 rw[iD] at this;unfold el;omega
def sl(x y:Lot):Prop:=x.1<y.1∨(x.1=y.1∧x.2.1+x.2.2<y.2.1)
structure MrgI (l:Lot) (z:LL×LL×Int×Int) (r:LL):Prop where
 lo:0≤z.2.2.1∧z.2.2.1≤l.2.1
 hi:l.2.1+l.2.2≤z.2.2.2
 hiC:z.2.2.2=l.2.1+l.2.2∨∀x∈r,x.1=l.1→z.2.2.2<x.2.1
 loC:z.2.2.1=l.2.1∨∀x∈r,x.1=l.1→l.2.1<x.2.1
 s1:(z.1++r).Pairwise sl
 s2:(z.2.1++r).Pairwise sl
 s3:∀y∈z.1,y.1<l.1∨(y.1=l.1∧y.2.1+y.2.2<z.2.2.1)
 s4:∀y∈z.2.1,(l.1<y.1∨(y.1=l.1∧z.2.2.2<y.2.1))∧1≤y.2.2
def zsum(z:LL×LL×Int×Int):Int:=lsum z.1+lsum z.2.1+(z.2.2.2 - z.2.2.1)
def zov(f:Int)(z:LL×LL×Int×Int)(t:Lot):Int:=OV z.1 t+OV z.2.1 t+ov (f,z.2.2.1,z.2.2.2 - z.2.2.1) t
def EP{l:Lot}{z:LL×LL×Int×Int}{x:Lot}{r:LL}(hl:LotOk l)(hx:LotOk x)(h:MrgI l z (x::r)):MrgI l (insS l.1 z x) r∧zsum (insS l.1 z x)=zsum z+x.2.2 - ov x l∧(ov x l=0→∀t,LotOk t→zov l.1 (insS l.1 z x) t=zov l.1 z t+ov x t):=by
 obtain⟨⟨b0,b1⟩,b2,b3,b4,s1,s2,s3,s4⟩:=h;have a2:x∈x::r:=au;have hr:∀{y},y∈r→y∈x::r:=fun hy=>aq _ hy;have a4:∀y∈r,sl x y:=(List.pairwise_cons.1 (List.pairwise_append.1 s1).2.1).1;have a7:∀y∈z.1,sl y x:=fun y hy=>(List.pairwise_append.1 s1).2.2 y hy x a2;have a6:∀y∈z.2.1,sl y x:=fun y hy=>(List.pairwise_append.1 s2).2.2 y hy x a2;have a8:=hl;have a5:=hx;unfold LotOk at a8 a5;have a0:(z.1++r).Pairwise sl:=s1.sublist (List.Sublist.append_left (List.sublist_cons_self x r) _);have a1:(z.2.1++r).Pairwise sl:=s2.sublist (List.Sublist.append_left (List.sublist_cons_self x r) _);unfold insS;by_cases c1:x.1<l.1∨(x.1=l.1∧x.2.1+x.2.2<z.2.2.1)
 ·rw[if_pos c1];have e0:ov x l=0:=by unfold ov;split<;>omega
  refine⟨⟨⟨b0,b1⟩,b2,b3.imp id (fun q y hy=>q y (hr hy)),b4.imp id (fun q y hy=>q y (hr hy)),?_,a1,?_,s4⟩,?_,fun _ t _=>?_⟩
  ·rw[aJ];exact s1
  ·intro y hy;rcases List.mem_append.1 hy with hy|hy
   ·exact s3 y hy
   ·rw[List.mem_singleton.1 hy];exact c1
  ·rw[e0];unfold zsum;dsimp only;rw[gA,gZ];omega
  ·unfold zov;dsimp only;rw[jh,kX];omega
 rw[if_neg c1];by_cases c2:l.1<x.1∨z.2.2.2<x.2.1
 ·rw[if_pos c2];have e0:ov x l=0:=by unfold ov;split<;>omega
  refine⟨⟨⟨b0,b1⟩,b2,b3.imp id (fun q y hy=>q y (hr hy)),b4.imp id (fun q y hy=>q y (hr hy)),a0,?_,s3,?_⟩,?_,fun _ t _=>?_⟩
  ·rw[aJ];exact s2
  ·intro y hy;rcases List.mem_append.1 hy with hy|hy
   ·exact s4 y hy
   ·rw[List.mem_singleton.1 hy];dsimp only;omega
  ·rw[e0];unfold zsum;dsimp only;rw[gA,gZ];omega
  ·unfold zov;dsimp only;rw[jh,kX];omega
 rw[if_neg c2];have hf:x.1=l.1:=ab
 have b5:z.2.2.2=l.2.1+l.2.2:=by
  rcases b3 with q|q
  ·exact q
  ·have:=q x a2 hf
   omega
 have a9:z.2.2.1=l.2.1∨l.2.1<x.2.1:=b4.imp id (fun q=>q x a2 hf);refine⟨⟨⟨by dsimp only;omega,by dsimp only;omega⟩,by dsimp only;omega,?_,?_,a0,a1,?_,?_⟩,?_,fun e0 t ht=>?_⟩
 ·dsimp only;by_cases q:x.2.1+x.2.2≤l.2.1+l.2.2
  ·left;omega
  ·right;intro y hy a3;have:=a4 y hy
   unfold sl at this;omega
 ·dsimp only;by_cases q:z.2.2.1≤x.2.1
  ·rcases b4 with g|g
   ·left;omega
   ·right;intro y hy a3;exact g y (hr hy) a3
  ·right;intro y hy a3;have:=a4 y hy
   unfold sl at this;omega
 ·intro y hy;have g1:=s3 y hy;have g2:=a7 y hy;unfold sl at g2;dsimp only;omega
 ·intro y hy;exfalso;have g1:=s4 y hy;have g2:=a6 y hy;unfold sl at g2;omega
 ·unfold zsum ov;rw[if_pos hf];dsimp only;omega
 ·unfold ov at e0;rw[if_pos hf] at e0;unfold zov;dsimp only
  have key:ov (l.1,min z.2.2.1 x.2.1,max z.2.2.2 (x.2.1+x.2.2) - min z.2.2.1 x.2.1) t=ov (l.1,z.2.2.1,z.2.2.2 - z.2.2.1) t+ov x t:=by
   unfold LotOk at ht;unfold ov;dsimp only;by_cases g:l.1=t.1
   ·rw[if_pos g,if_pos g,if_pos (hf.trans g)];omega
   ·rw[if_neg g,if_neg g,if_neg (fun q=>g (hf▸q))];omega
  omega
def tv{l:Lot}(hl:LotOk l):∀{r:LL} {z:LL×LL×Int×Int},(∀x∈r,LotOk x)→MrgI l z r→MrgI l (r.foldl (insS l.1) z) []∧zsum (r.foldl (insS l.1) z)=zsum z+lsum r - OV r l∧(OV r l=0→∀t,LotOk t→zov l.1 (r.foldl (insS l.1) z) t=zov l.1 z t+OV r t)
 | [],z,_,h=>⟨h,by show zsum z=zsum z+0 - 0;omega,fun _ t _=>by show zov l.1 z t=zov l.1 z t+0;omega⟩
 | x::r,z,hr,h=>by
  obtain⟨h1,h2,h3⟩:=EP hl (hr x au) h;obtain⟨i1,i2,i3⟩:=tv hl (r:=r) (z:=insS l.1 z x) (fun y hy=>hr y (aq _ hy)) h1;have e:OV (x::r) l=ov x l+OV r l:=rfl;have n1:=BP x l;have n2:=vv r l;refine⟨i1,?_,fun q t ht=>?_⟩
  ·show zsum (r.foldl (insS l.1) (insS l.1 z x))=_;rw[gM];omega
  ·have g1:=h3 ab t ht;have g2:=i3 ab t ht;show zov l.1 (r.foldl (insS l.1) (insS l.1 z x)) t=zov l.1 z t+(ov x t+OV r t);omega
def EY{l:Lot}{s:LL}(hl:LotOk l)(hs:∀x∈s,LotOk x)(hp:s.Pairwise sl):(insL s l).Pairwise sl∧lsum (insL s l)=lsum s+l.2.2 - OV s l∧(OV s l=0→∀t,LotOk t→OV (insL s l) t=OV s t+ov l t):=by
 have a0:=hl;unfold LotOk at a0;obtain⟨⟨_,_,_,_,_,_,s3,s4⟩,h2,h3⟩:=tv hl (r:=s) (z:=([],[],l.2.1,l.2.1+l.2.2)) hs ⟨⟨a0.2.1,bj _⟩,bj _,.inl rfl,.inl rfl,hp,hp,(fun _ h=>by cases h),(fun _ h=>by cases h)⟩;have hm:=tv hl (r:=s) (z:=([],[],l.2.1,l.2.1+l.2.2)) hs ⟨⟨a0.2.1,bj _⟩,bj _,.inl rfl,.inl rfl,hp,hp,(fun _ h=>by cases h),(fun _ h=>by cases h)⟩;have p1:=hm.1.s1;have p2:=hm.1.s2;have q1:=hm.1.lo;have q2:=hm.1.hi;rw[aY] at p1 p2;have e:s.foldl (insS l.1) ([],[],l.2.1,l.2.1+l.2.2)=insG s l:=rfl;rw[e] at s3 s4 h2 h3 p1 p2 q1 q2;clear hm;have z0:zsum ([],[],l.2.1,l.2.1+l.2.2)=l.2.2:=by unfold zsum;dsimp only;rw[iD];omega
 unfold insL;generalize insG s l=z at *;refine⟨?_,?_,fun q t ht=>?_⟩
 ·refine List.pairwise_append.2 ⟨List.pairwise_append.2 ⟨p1,cI _ _,fun y hy w hw=>?_⟩,p2,fun y hy w hw=>?_⟩
  ·rw[List.mem_singleton.1 hw];have:=s3 y hy
   unfold sl;dsimp only;omega
  ·have g2:=s4 w hw;rcases List.mem_append.1 hy with hy|hy
   ·have g1:=s3 y hy;unfold sl;omega
   ·rw[List.mem_singleton.1 hy];unfold sl;dsimp only;omega
 ·rw[gA,gA,gZ];rw[z0] at h2;unfold zsum at h2;dsimp only;omega
 ·have g:=h3 q t ht
  have e0:zov l.1 ([],[],l.2.1,l.2.1+l.2.2) t=ov l t:=by
   unfold zov;dsimp only;have:l.2.1+l.2.2 - l.2.1=l.2.2:=ab;rw[this];show 0+0+ov (l.1,l.2.1,l.2.2) t=ov l t;rw[show(l.1,l.2.1,l.2.2)=l from rfl];omega
  rw[e0] at g;unfold zov at g;rw[jh,jh,kX];omega
def lc{ps:LL}(h:∀x∈ps,LotOk x):∀i,i≤ps.length→(setL (ps.take i)).Pairwise sl∧lsum (setL (ps.take i))≤lsum (ps.take i)∧(lsum (setL (ps.take i))=lsum (ps.take i)→Apart (ps.take i)∧∀t,LotOk t→OV (setL (ps.take i)) t=OV (ps.take i) t)∧(Apart (ps.take i)→lsum (setL (ps.take i))=lsum (ps.take i))
 | 0,_=>⟨List.Pairwise.nil,bj _,fun _=>⟨List.Pairwise.nil,fun _ _=>rfl⟩,fun _=>rfl⟩
 | i+1,hi=>by
  obtain⟨h1,h2,h3,h4⟩:=lc h i ab;have a0:i<ps.length:=ab;have hx:=h _ (aG a0);have a4:=(mP h i ab).2;have e:setL (ps.take (i+1))=insL (setL (ps.take i)) ps[i]!:=iu insL [] a0;have et:ps.take (i+1)=ps.take i++[ps[i]!]:=by rw[aC a0,getElem!_of a0]
  have a5:lsum (ps.take (i+1))=lsum (ps.take i)+ps[i]!.2.2:=dX ps a0;have a3:∀x∈ps.take i,LotOk x:=fun x hq=>h x (cL hq);obtain⟨g1,g2,g3⟩:=EY hx a4 h1;have nn:=vv (setL (ps.take i)) ps[i]!;rw[e,a5];refine⟨g1,ab,fun q=>?_,fun q=>?_⟩
  ·obtain⟨a1,a2⟩:=h3 ab;have z:OV (setL (ps.take i)) ps[i]! = 0:=ab;rw[et];refine⟨List.pairwise_append.2 ⟨a1,cI _ _,fun y hy w hw=>?_⟩,fun t ht=>?_⟩
   ·rw[List.mem_singleton.1 hw];rw[a2 _ hx] at z;exact(qf (a3 y hy) hx).1 (tQ z y hy)
   ·rw[g3 z t ht,a2 t ht,jh,kX]
  ·rw[et] at q;obtain⟨q1,_,q3⟩:=List.pairwise_append.1 q;have h5:=h4 q1;have h6:=(h3 h5).2 _ hx
   have z:∀{l:LL},(∀y∈l,LotOk y)→(∀y∈l,apart y ps[i]!)→OV l ps[i]! = 0:=fun {l}=>by
    induction l with
    | nil=>intro _ _;rfl
    | cons y l ih =>
     intro w1 w2;have e1:=(qf (w1 y au) hx).2 (w2 y au);have e2:=ih (fun q hq=>w1 q (aq _ hq)) (fun q hq=>w2 q (aq _ hq));show ov y ps[i]! + OV l ps[i]! = 0;omega
   have h7:=z a3 (fun y hy=>q3 y hy _ (List.mem_singleton_self _));omega
def mw{ps:LL}(h:∀x∈ps,LotOk x):lsum (setL ps)=lsum ps↔Apart ps:=by
 obtain⟨_,_,h3,h4⟩:=lc h ps.length (aB _);rw[bD] at h3 h4;exact⟨fun q=>(h3 q).1,h4⟩
def EF{s:LL}(h:s.Pairwise sl):Apart s:=h.imp (fun {a b} q=>by unfold sl at q;unfold apart;omega)
def vw{a b:LL}:∀{s:LL},(∀t∈s,OV a t=OV b t)→OO a s=OO b s
 | [],_=>rfl
 | x::s,h=>by
  have h1:=h x au;have h2:=vw (s:=s) (fun t ht=>h t (aq _ ht));show OV a x+OO a s=OV b x+OO b s;omega
def AC{ps own:LL}(hw:fV ps own)(ha:Apart own)(hd:lsum (setL ps)=lsum ps):lsum (el own ps)=lsum own - lsum ps:=by
 obtain⟨⟨h1,_⟩,⟨h2,_⟩,h3⟩:=hw;have hs:=la h1;have e1:lsum (fA ps own)=lsum (setL ps) - OO (setL ps) own:=mN hs.2 h2 ha;rw[h3,iD] at e1;have a0:=(mw h1).1 hd;have e2:=mN h2 h1 a0;obtain⟨_,_,g3,_⟩:=lc h1 ps.length (aB _);rw[bD] at g3;have e3:OO (setL ps) own=OO ps own:=vw (fun t ht=>(g3 hd).2 t (h2 t ht));rw[Az own ps] at e2;omega
