/- Lemmas. -/
import Derived.Test.YtommnllbflbdmaaGreatDoorFba
set_option linter.all false
set_option maxHeartbeats 4000000
namespace Go.Proofs.YtommnllbflbdmaaGreatDoor
section
open Go.V
attribute [local irreducible] G GO GP GPW GPK Ev Ef EfR Ent CB GB V.Enters
def FlOk(fl:List FlV):Prop:=fl.length≤9000000∧∀f∈fl,(∀x∈f.m.parts,LotOk x)∧f.m.parts.length≤2047
def lX(fl:List FlM)(p:Lot):Prop:=∃f∈fl,f.kind=5∧gQ f.parts [p]≠[]
instance (fl:List FlM)(p:Lot):Decidable (lX fl p):=by unfold lX;infer_instance
def arr1(sh:Int)(fl:List FlM)(p:Lot):Int:=if p.1 / 4294967296=sh∨11<p.1 / 4294967296 then 1 else if lX fl p then 8 else 0
def arrG(sh:Int)(fl:List FlM):LL→Int
 | []=>0
 | p::ps=>if arr1 sh fl p=0 then arrG sh fl ps else arr1 sh fl p
def kB(fl:List FlM)(item:Int)(p:Lot):Prop:=(¬ ∃f∈fl,f.kind=9∧f.frm=0∧gQ f.parts [p]≠[])∧∃f∈fl,f.kind≠6∧f.to=0∧f.item=item∧fx [p] [(f.id,0,f.n)]
instance (fl:List FlM)(item:Int)(p:Lot):Decidable (kB fl item p):=by unfold kB;infer_instance
def revG(fl:List FlM)(item:Int)(ps:LL):Int:=if ∀p∈ps,kB fl item p then 0 else 10
def pR{p:Lot}(h:LotOk p):dQ [p]:=⟨fun x hx=>by rw[List.mem_singleton.1 hx];exact h,by show 1≤4096;omega⟩
def Cb{fl:List FlV}(h:FlOk fl){p:Lot}(hp:LotOk p){f:FlV}(hf:f∈fl):dQ f.m.parts∧(gr f.m.parts [p]).length≤4096:=by
 obtain⟨h1,h2⟩:=h.2 f hf;refine⟨⟨h1,ab⟩,?_⟩;have:=(kR h1 (pR hp).1).2
 rw[aM] at this;omega
def vH{fl:List FlV}{k:Nat}(h:k<fl.length){L:LH}:Ent (allP flP fl::L) (isl aj 3 fl[k]!.pad fl[k]!.m.parts::isl (encZ .i64) 1 fl[k]!.mad fl[k]!.m.made::allP flP fl::L):=(Ent.e7 (f:=flP) (aJ h)).trans Ent.andE
def tc{xs:LL}{i:Nat}(h:i<xs.length):(xs.drop i).take 1=[xs[i]!]:=by
 rw[ej h];rfl
abbrev Ae:=aH4 [.ev 17,.ev 18,.ev 19,.ev 20,.ev 21,.ev 22,.ef 23,.ev 24,.ev 25,.ev 26]
def Rn{φ ψ:Prop}(k:ψ)(h:Hid ψ→φ:=by intro k;(repeat (first|refine aa ?_|intro zzz|refine G.dr 66 10 Ae ?_));(repeat revert zzz);exact Hid.out k):φ:=h ⟨k⟩
def xv{L:LH}(b:Nat)(sh:Int)(x:RLX)(a8:FlOk x.flows)(ad:OA)(n c:Nat)(ps:LL)[hr:Rds L ad Lot aj 3 ps](hn:n=ps.length)(hc:ps.length≤c)(hv:∀p∈ps,LotOk p)(hb:∀p∈ps,p.1≤9223372036854775807)(hl:ps.length≤4096) :
  Tri ai 227 #[ay b,ah ad n c] (rlL b sh x L) (rtQ (ac (arrG sh (x.flows.map FlV.m) ps)) (rlL b sh x L)):=by
 subst hn;have b2:=a8.1;refine Tri.bd ?_;simp only[rlL,aI];refine Rn ?_;intros;refine G.loop (α:=Nat) (fun i=>i≤ps.length∧arrG sh (x.flows.map FlV.m) ps=arrG sh (x.flows.map FlV.m) (ps.drop i)) (fun i=>[(0,ay b),(1,ah ad ps.length c),(5,ac (i:Int))]) (fun _=>rlL b sh x L) (fun i=>ps.length - i) 0 ⟨ax _,rfl⟩ av (by simp only[rlL,aI];exact ag) ?_;rintro i ⟨hi,he⟩;simp only[rlL,aI];by_cases b0:i<ps.length
 case neg =>
  have e0:ps.drop i=[]:=bG ab;rw[e0] at he;refine Rn ?_;intros;exact KX.d7 an ag ⟨by rw[he];rfl,rfl⟩
 have a5:(i:Int).toNat=i:=aC i;have a3 : (i:Int).toNat<ps.length:=ab;have a6:=hv _ (aJ a3);have b6:=a6.1;have b7:=hb _ (aJ a3);have b1:ps.drop i=ps[(i:Int).toNat]!::ps.drop (i+1):=by rw[a5];exact ej b0
 rw[b1] at he
 haveI hrd:Rds L (advA ad c 3 i) Lot aj 3 [ps[(i:Int).toNat]!]:=by
  have h:=Rds.take (Rds.drop hr hc i) 1;rwa [tc b0,←a5,a5] at h
 have a4:arrG sh (x.flows.map FlV.m) (ps[(i:Int).toNat]!::ps.drop (i+1))=if arr1 sh (x.flows.map FlV.m) ps[(i:Int).toNat]! = 0 then arrG sh (x.flows.map FlV.m) (ps.drop (i+1)) else arr1 sh (x.flows.map FlV.m) ps[(i:Int).toNat]!:=rfl;rw[a4] at he;refine Rn ?_;intros;generalize hpg:ps[(i:Int).toNat]! = p at *;by_cases h1:p.1 / 4294967296=sh
 ·have e1:arr1 sh (x.flows.map FlV.m) p=1:=if_pos (.inl h1);rw[e1,if_neg ae] at he;refine Rn ?_;intros;exact KX.d7 an ag ⟨by rw[he];rfl,rfl⟩
 by_cases h2:11<p.1 / 4294967296
 ·have e1:arr1 sh (x.flows.map FlV.m) p=1:=if_pos (.inr h2);rw[e1,if_neg ae] at he;refine Rn ?_;intros;exact KX.d7 an ag ⟨by rw[he];rfl,rfl⟩
 have e1:arr1 sh (x.flows.map FlV.m) p=if lX (x.flows.map FlV.m) p then 8 else 0:=if_neg (fun q=>q.elim h1 h2);rw[e1] at he;refine Rn ?_;intros;refine G.loop (α:=Nat) (fun k=>k≤x.flows.length∧∀j,j<k→¬(x.flows[j]!.m.kind=5∧gQ x.flows[j]!.m.parts [p]≠[])) (fun k=>[(0,ay b),(1,ah ad ps.length c),(5,ac (i:Int)),(7,ac (k:Int))]) (fun _=>rlL b sh x L) (fun k=>x.flows.length - k) 0 ⟨ax _,fun j hj=>absurd hj (cj j)⟩ av (by simp only[rlL,aI];exact ag) ?_;rintro k ⟨hk,a1⟩;simp only[rlL,aI];by_cases b5:k<x.flows.length
 case neg =>
  have b4:¬lX (x.flows.map FlV.m) p:=by
   rintro⟨f,hf,h3,h4⟩;obtain⟨u,hu,rfl⟩:=List.mem_map.1 hf;obtain⟨j,hj,rfl⟩:=List.mem_iff_getElem.1 hu;refine a1 j ab ?_;rw[getElem!_of hj];exact⟨h3,h4⟩
  rw[if_neg b4,if_pos rfl] at he;refine Rn ?_;intros;refine⟨i+1,⟨ab,he⟩,ab,?_,?_⟩
  ·rw[aY i];exact av
  ·try simp only[rlL,aI]
   exact ag
 have b3:(k:Int).toNat=k:=aC k;have a2 : (k:Int).toNat<x.flows.length:=ab;have a9:=Cb a8 a6 (aJ a2)
 have a0:¬(x.flows[(k:Int).toNat]!.m.kind=5∧gQ x.flows[(k:Int).toNat]!.m.parts [p]≠[])→∀j,j<k+1→¬(x.flows[j]!.m.kind=5∧gQ x.flows[j]!.m.parts [p]≠[]):=fun h j hj=>by
  rcases cm j k with h3|h3
  ·exact a1 j h3
  ·obtain rfl:j=k:=ab;rw[b3] at h;exact h
 by_cases h3:x.flows[(k:Int).toNat]!.m.kind=5
 case neg =>
  refine Rn ?_;intros;refine⟨k+1,⟨ab,a0 (fun q=>h3 q.1)⟩,ab,?_,?_⟩
  ·rw[aY k];exact av
  ·try simp only[rlL,aI]
   exact ag
 refine G.ent (L':=isl aj 3 x.flows[(k:Int).toNat]!.pad x.flows[(k:Int).toNat]!.m.parts::rlL b sh x L) ((Ent.at (A:=allP flP x.flows) (vH a2)).trans (by simp only[rlL,aI];exact ag)) ?_;simp only[rlL,aI];refine Rn ?_;intros;rw[a5,show((i:Int)+1).toNat - i=1 by omega];refine GPW.ca (tC x.flows[(k:Int).toNat]!.pad x.flows[(k:Int).toNat]!.m.parts.length x.flows[(k:Int).toNat]!.pcap x.flows[(k:Int).toNat]!.m.parts (advA ad c 3 i) 1 _ [p] rfl rfl a9.1 (pR a6) a9.2) ?_;rintro _ _⟨ad2,c2,rfl,rfl⟩;by_cases h4:gQ x.flows[(k:Int).toNat]!.m.parts [p]=[]
 ·have h5:((gQ x.flows[(k:Int).toNat]!.m.parts [p]).length:Int)=0:=by rw[h4];rfl
  refine Rn ?_;intros;refine⟨k+1,⟨ab,a0 (fun q=>q.2 h4)⟩,ab,?_,?_⟩
  ·rw[aY k];exact av
  ·try simp only[rlL,aI]
   exact ag
 ·have h5:0<((gQ x.flows[(k:Int).toNat]!.m.parts [p]).length:Int):=by
   have:=List.length_pos_iff.2 h4
   omega
  have a7:lX (x.flows.map FlV.m) p:=⟨x.flows[(k:Int).toNat]!.m,alStd0List_mem_map_of_mem (aJ a2),h3,h4⟩;rw[if_pos a7,if_neg ae] at he;refine Rn ?_;intros;exact KX.d7 an ag ⟨by rw[he];rfl,rfl⟩
def gotP(f:FlM)(item:Int)(p:Lot):Prop:=f.kind≠6∧f.to=0∧f.item=item∧fx [p] [(f.id,0,f.n)]
def gotN(fl:List FlV)(item:Int)(p:Lot)(k:Nat):Prop:=∃j,j<k∧gotP fl[j]!.m item p
noncomputable instance (fl:List FlV) (item:Int) (p:Lot) (k:Nat):Decidable (gotN fl item p k):=Classical.propDecidable _
def Ga(fl:List FlV)(item:Int)(p:Lot):¬gotN fl item p 0:=fun⟨_,hj,_⟩=>absurd hj (cj _)
def Gb{fl:List FlV}{item:Int}{p:Lot}{k:Nat}:gotN fl item p (k+1)↔gotN fl item p k∨gotP fl[k]!.m item p:=by
 constructor
 ·rintro⟨j,hj,h⟩;rcases cm j k with h3|h3
  ·exact .inl ⟨j,h3,h⟩
  ·obtain rfl:j=k:=ab;exact .inr h
 ·rintro (⟨j,hj,h⟩|h)
  ·exact⟨j,ab,h⟩
  ·exact⟨k,ab,h⟩
abbrev Ad:=aH4 [.ef 17,.ev 18,.ev 19,.ev 20]
def dv{φ ψ:Prop}(k:ψ)(h:Hid ψ→φ:=by intro k;(with_reducible apply G.d7);first|refine G.dr 89 13 Ad (Hid.out k)):φ:=h ⟨k⟩
def Ry{φ ψ:Prop}(k:ψ)(h:Hid ψ→φ:=by intro k;(repeat (first|refine aa ?_|intro zzz|refine dv ?_));(repeat revert zzz);exact Hid.out k):φ:=h ⟨k⟩
def xj{L:LH}(b:Nat)(sh:Int)(x:RLX)(a9:FlOk x.flows)(m:MvV)[hr:Rds L m.pad Lot aj 3 m.m.parts](hc:m.m.parts.length≤m.pcap)(hv:∀p∈m.m.parts,LotOk p)(hl:m.m.parts.length≤4096) :
  Tri ai 228 #[ay b,aO (aL m)] (rlL b sh x L) (rtQ (ac (revG (x.flows.map FlV.m) m.m.item m.m.parts)) (rlL b sh x L)):=by
 obtain⟨⟨frm,to,item,n,ps⟩,ad,c⟩:=m;dsimp only at hr hc hv hl;have b7:=a9.1;have a4:∀{p:Lot},p∈ps→¬kB (x.flows.map FlV.m) item p→revG (x.flows.map FlV.m) item ps=10:=fun hp h=>if_neg (fun q=>h (q _ hp));refine Tri.bd (args:=[ay b,aO (aL ⟨⟨frm,to,item,n,ps⟩,ad,c⟩)]) ?_;simp only[rlL,aI,aL];refine Ry ?_;intros;rename_i b3;refine G.loop (α:=Nat) (fun i=>i≤ps.length∧∀j,j<i→kB (x.flows.map FlV.m) item ps[j]!) (fun i=>[(0,ay b),(3,ay b3),(5,ac (i:Int))]) (fun _=>rlL b sh x (obj b3 tMv [ac frm,ac to,ac item,ac n,ah ad ps.length c]::L)) (fun i=>ps.length - i) 0 ⟨ax _,fun j hj=>absurd hj (cj j)⟩ av (by simp only[rlL,aI];exact ag) ?_;rintro i ⟨hi,a2⟩;simp only[rlL,aI];by_cases b4:i<ps.length
 case neg =>
  have e0:revG (x.flows.map FlV.m) item ps=0:=if_pos (fun p hp=>by
   obtain⟨j,hj,rfl⟩:=List.mem_iff_getElem.1 hp;have:=a2 j ab
   rwa [getElem!_of hj] at this)
  rw[e0];refine Ry ?_;intros;exact KX.en ⟨rfl,rfl⟩
 have b1:(i:Int).toNat=i:=aC i;have a6:=aJ b4;have b5:=hv _ a6
 haveI hrd:Rds L (advA ad c 3 i) Lot aj 3 [ps[i]!]:=by
  have h:=Rds.take (Rds.drop hr hc i) 1;rwa [tc b4] at h
 generalize hpg:ps[i]! = p at *;refine Ry ?_;intros;refine G.loop (α:=Nat) (fun k=>k≤x.flows.length∧∀j,j<k→¬(x.flows[j]!.m.kind=9∧x.flows[j]!.m.frm=0∧gQ x.flows[j]!.m.parts [p]≠[])) (fun k=>[(0,ay b),(3,ay b3),(5,ac (i:Int)),(6,.bool (dB (gotN x.flows item p k))),(7,ac (k:Int))]) (fun _=>rlL b sh x (obj b3 tMv [ac frm,ac to,ac item,ac n,ah ad ps.length c]::L)) (fun k=>x.flows.length - k) 0 ⟨ax _,fun j hj=>absurd hj (cj j)⟩ ?_ (by simp only[rlL,aI];exact ag) ?_
 ·rw[aH (Ga _ _ _)];exact av
 rintro k ⟨hk,a3⟩;simp only[rlL,aI];by_cases b2:k<x.flows.length
 case neg =>
  obtain rfl:k=x.flows.length:=ab
  have c3:¬ ∃f∈x.flows.map FlV.m,f.kind=9∧f.frm=0∧gQ f.parts [p]≠[]:=by
   rintro⟨f,hf,h3⟩;obtain⟨u,hu,rfl⟩:=List.mem_map.1 hf;obtain⟨j,hj,rfl⟩:=List.mem_iff_getElem.1 hu;refine a3 j hj ?_;rw[getElem!_of hj];exact h3
  have a5:gotN x.flows item p x.flows.length↔kB (x.flows.map FlV.m) item p:=by
   constructor
   ·rintro⟨j,hj,h3⟩;exact⟨c3,_,alStd0List_mem_map_of_mem (aJ hj),h3⟩
   ·rintro⟨_,f,hf,h3⟩;obtain⟨u,hu,rfl⟩:=List.mem_map.1 hf;obtain⟨j,hj,rfl⟩:=List.mem_iff_getElem.1 hu;refine⟨j,hj,?_⟩;rw[getElem!_of hj];exact h3
  by_cases hb:kB (x.flows.map FlV.m) item p
  ·rw[aU (a5.2 hb)];refine Ry ?_;intros;refine⟨i+1,⟨ab,fun j hj=>?_⟩,ab,?_,?_⟩
   ·rcases cm j i with h3|h3
    ·exact a2 j h3
    ·obtain rfl:j=i:=ab;rw[hpg];exact hb
   ·rw[aY i];exact av
   ·try simp only[rlL,aI]
    exact ag
  ·rw[aH (fun q=>hb (a5.1 q)),a4 a6 hb];refine Ry ?_;intros;exact KX.en ⟨rfl,rfl⟩
 have c0:(k:Int).toNat=k:=aC k;have c1 : (k:Int).toNat<x.flows.length:=ab;have a8:=aJ b2;have b0:=Cb a9 b5 a8;refine G.ent (L':=isl aj 3 x.flows[k]!.pad x.flows[k]!.m.parts::rlL b sh x (obj b3 tMv [ac frm,ac to,ac item,ac n,ah ad ps.length c]::L)) ((Ent.at (A:=allP flP x.flows) (vH b2)).trans (by simp only[rlL,aI];exact ag)) ?_;simp only[rlL,aI];refine Ry ?_;intros;rw[c0];have a7:=Gb (fl:=x.flows) (item:=item) (p:=p) (k:=k)
 have a0:¬(x.flows[k]!.m.kind=9∧x.flows[k]!.m.frm=0∧gQ x.flows[k]!.m.parts [p]≠[])→∀j,j<k+1→¬(x.flows[j]!.m.kind=9∧x.flows[j]!.m.frm=0∧gQ x.flows[j]!.m.parts [p]≠[]):=fun h j hj=>by
  rcases cm j k with h3|h3
  ·exact a3 j h3
  ·obtain rfl:j=k:=ab;exact h
 have b6:x.flows[k]!.m.kind=9∧x.flows[k]!.m.frm=0∧gQ x.flows[k]!.m.parts [p]≠[]→¬kB (x.flows.map FlV.m) item p:=fun h q=>q.1 ⟨_,alStd0List_mem_map_of_mem a8,h⟩;generalize hf:x.flows[k]! = f at *;simp only[aQ];refine Ry ?_;intros;rename_i b8 b9;rw[b1,show((i:Int)+1).toNat - i=1 by omega];refine GO.ent (L':=osl aj 3 tLot (some ⟨b9,0,none⟩) 1 [(f.m.id,0,f.m.n)]::obj b8 bE (aQ f)::isl aj 3 f.pad f.m.parts::rlL b sh x (obj b3 tMv [ac frm,ac to,ac item,ac n,ah ad ps.length c]::L)) ?_ ?_
 ·refine Ent.trans (B:=obj b9 tLot (aj (f.m.id,0,f.m.n))::obj b8 bE (aQ f)::isl aj 3 f.pad f.m.parts::rlL b sh x (obj b3 tMv [ac frm,ac to,ac item,ac n,ah ad ps.length c]::L)) (by simp only[rlL,aI,aj,aQ];exact ag) ?_;exact Ent.f7 (enc:=aj) (sz:=3) (xs:=[(f.m.id,0,f.m.n)]) ce rfl (by intro z hz;rw[List.mem_singleton.1 hz];rfl) ce
 simp only[rlL,aI];refine GO.cr (pV (advA ad c 3 i) 1 _ [p] (some ⟨b9,0,none⟩) 1 1 [(f.m.id,0,f.m.n)] rfl rfl ae ae) ?_;repeat first|refine G.sm 11 ?_|refine bV ?_|intro _|refine dv ?_
 refine G.d8 (α:=Unit) (fun _=>True) (fun _=>[(0,ay b),(3,ay b3),(5,ac (i:Int)),(6,.bool (dB (gotN x.flows item p (k+1)))),(7,ac (k:Int)),(8,ay b8)]) (fun _=>obj b8 bE (aQ f)::isl aj 3 f.pad f.m.parts::rlL b sh x (obj b3 tMv [ac frm,ac to,ac item,ac n,ah ad ps.length c]::L)) ?_ ?_
 ·have a1:∀{q:Prop},¬q→(gotP f.m item p→q)→dB (gotN x.flows item p k)=dB (gotN x.flows item p (k+1)):=fun h1 h2=>by
   have h3:gotN x.flows item p (k+1)↔gotN x.flows item p k:=⟨fun h=>(a7.1 h).resolve_right (fun r=>h1 (h2 r)),fun h=>a7.2 (.inl h)⟩;by_cases h4:gotN x.flows item p k
   ·rw[aU h4,aU (h3.2 h4)]
   ·rw[aH h4,aH (fun r=>h4 (h3.1 r))]
  simp only[aQ];by_cases g1:f.m.kind=6
  ·rw[a1 (fun q=>q g1) (fun r=>r.1)];refine Ry ?_;intros;exact⟨(),trivial,av,by exact ag⟩
  by_cases g2:f.m.to=0
  case neg =>
   rw[a1 g2 (fun r=>r.2.1)];refine Ry ?_;intros;exact⟨(),trivial,av,by exact ag⟩
  by_cases g3:f.m.item=item
  case neg =>
   rw[a1 g3 (fun r=>r.2.2.1)];refine Ry ?_;intros;exact⟨(),trivial,av,by exact ag⟩
  by_cases g4:fx [p] [(f.m.id,0,f.m.n)]
  case neg =>
   rw[a1 g4 (fun r=>r.2.2.2),aH g4];refine Ry ?_;intros;exact⟨(),trivial,av,by exact ag⟩
  rw[aU g4,aU (a7.2 (.inr ⟨g1,g2,g3,g4⟩))];refine Ry ?_;intros;exact⟨(),trivial,av,by exact ag⟩
 rintro _ _;simp only[rlL,aI,aQ];by_cases g1:f.m.kind=9
 case neg =>
  refine Ry ?_;intros;refine⟨k+1,⟨ab,a0 (fun q=>g1 q.1)⟩,ab,?_,?_⟩
  ·rw[aY k];exact av
  ·try simp only[rlL,aI]
   exact ag
 by_cases g2:f.m.frm=0
 case neg =>
  refine Ry ?_;intros;refine⟨k+1,⟨ab,a0 (fun q=>g2 q.2.1)⟩,ab,?_,?_⟩
  ·rw[aY k];exact av
  ·try simp only[rlL,aI]
   exact ag
 refine Ry ?_;intros;rw[b1,show((i:Int)+1).toNat - i=1 by omega];refine GPW.ca (tC f.pad f.m.parts.length f.pcap f.m.parts (advA ad c 3 i) 1 _ [p] rfl rfl b0.1 (pR b5) b0.2) ?_;rintro _ _⟨ad2,c2,rfl,rfl⟩;by_cases h4:gQ f.m.parts [p]=[]
 ·have h5:((gQ f.m.parts [p]).length:Int)=0:=by rw[h4];rfl
  refine Ry ?_;intros;refine⟨k+1,⟨ab,a0 (fun q=>q.2.2 h4)⟩,ab,?_,?_⟩
  ·rw[aY k];exact av
  ·try simp only[rlL,aI]
   exact ag
 ·have h5:0<((gQ f.m.parts [p]).length:Int):=by
   have:=List.length_pos_iff.2 h4
   omega
  rw[a4 a6 (b6 ⟨g1,g2,h4⟩)];refine Ry ?_;intros;exact KX.en ⟨rfl,rfl⟩
end
section
open Go.V
def gI(x:Lot)(l:LL):lsum (x::l)=x.2.2+lsum l:=by
 have:=gV [x] l
 rw[gq] at this;exact this
def ik:lsum ([]:LL)=0:=rfl
def ov(x y:Lot):Int:=if x.1=y.1 then max 0 (min (x.2.1+x.2.2) (y.2.1+y.2.2) - max x.2.1 y.2.1) else 0
def qZ(x y:Lot):ov x y=ov y x:=by
 unfold ov;by_cases h:x.1=y.1
 ·rw[if_pos h,if_pos h.symm];omega
 ·rw[if_neg h,if_neg (fun q=>h q.symm)]
def DW(x y:Lot):0≤ov x y:=by
 unfold ov;split<;>omega
def qY{x y:Lot}(hx:LotOk x)(hy:LotOk y):ov x y=0↔apart x y:=by
 unfold LotOk at hx hy;unfold ov apart;split<;>omega
def OV:LL→Lot→Int
 | [],_=>0
 | x::l,y=>ov x y+OV l y
def wB:∀(l:LL) (y:Lot),0≤OV l y
 | [],_=>bB _
 | x::l,y=>by
  have:=wB l y
  have:=DW x y
  show 0≤ov x y+OV l y;omega
def gL:∀(a b:LL) (y:Lot),OV (a++b) y=OV a y+OV b y
 | [],b,y=>by show OV b y=0+OV b y;omega
 | x::a,b,y=>by
  have:=gL a b y
  show ov x y+OV (a++b) y=ov x y+OV a y+OV b y;omega
def iM(x y:Lot):OV [x] y=ov x y:=by show ov x y+0=ov x y;omega
def uX:∀{l:LL} {y:Lot},OV l y=0→∀x∈l,ov x y=0
 | x::l,y,h,z,hz=>by
  have h1:=wB l y;have h2:=DW x y;have h3:ov x y+OV l y=0:=h;rcases List.mem_cons.1 hz with rfl|hz
  ·omega
  ·exact uX ab z hz
def OO(l:LL):LL→Int
 | []=>0
 | x::s=>OV l x+OO l s
def uY(y:Lot)(l:LL):∀s,OO (y::l) s=OO [y] s+OO l s
 | []=>rfl
 | x::s=>by
  have:=uY y l s
  have e:=iM y x;show(ov y x+OV l x)+OO (y::l) s=(OV [y] x+OO [y] s)+(OV l x+OO l s);omega
def zi:∀s,OO [] s=0
 | []=>rfl
 | x::s=>by
  have:=zi s
  show 0+OO [] s=0;omega
def GN(y:Lot):∀s,OO [y] s=OV s y
 | []=>rfl
 | x::s=>by
  have:=GN y s
  have e:=iM y x;have c:=qZ x y;show OV [y] x+OO [y] s=ov x y+OV s y;omega
def Cr:∀l s,OO l s=OO s l
 | [],s=>zi s
 | y::l,s=>by
  rw[uY,GN,Cr l s];rfl
def GY{x y:Lot}(hx:LotOk x)(hy:LotOk y):lsum (subS x y)=y.2.2 - ov y x:=by
 unfold LotOk at hx hy;unfold subS ov;by_cases hc:y.1≠x.1∨x.2.1+x.2.2≤y.2.1∨y.2.1+y.2.2≤x.2.1
 ·rw[if_pos hc,gq];by_cases hf:y.1=x.1
  ·rw[if_pos hf];omega
  ·rw[if_neg hf];omega
 ·have hf:y.1=x.1:=ab;rw[if_neg hc,if_pos hf,gV];by_cases g1:y.2.1<x.2.1
  ·rw[if_pos g1,gq];by_cases g2:x.2.1+x.2.2<y.2.1+y.2.2
   ·rw[if_pos g2,gq];dsimp only;omega
   ·rw[if_neg g2,ik];dsimp only;omega
  ·rw[if_neg g1,ik];by_cases g2:x.2.1+x.2.2<y.2.1+y.2.2
   ·rw[if_pos g2,gq];dsimp only;omega
   ·rw[if_neg g2,ik];omega
def Io{x y t:Lot}(hx:LotOk x)(hy:LotOk y)(ht:LotOk t)(h:apart x t):OV (subS x y) t=ov y t:=by
 unfold LotOk at hx hy ht;unfold apart at h;unfold subS;split
 ·exact iM y t
 ·rename_i hn;rw[gL];by_cases hf:x.1=t.1
  ·have a0:y.1=t.1:=ab;split<;>split<;>simp only[iM,OV,ov,if_pos hf,if_pos a0]<;>omega
  ·have a0:¬y.1=t.1:=ab;split<;>split<;>simp only[iM,OV,ov,if_neg hf,if_neg a0]<;>omega
def rW{x:Lot}(hx:LotOk x):∀{l:LL},(∀y∈l,LotOk y)→lsum (subL l x)=lsum l - OV l x
 | [],_=>rfl
 | y::l,h=>by
  have e:subL (y::l) x=subS x y++subL l x:=bI;have ih:=rW hx (l:=l) (fun z hz=>h z (aw _ hz));have h1:=GY hx (h y au);rw[e,gV,gI,ih,h1];show _=y.2.2+lsum l - (ov y x+OV l x);omega
def BL{x t:Lot}(hx:LotOk x)(ht:LotOk t)(ha:apart x t):∀{l:LL},(∀y∈l,LotOk y)→OV (subL l x) t=OV l t
 | [],_=>rfl
 | y::l,h=>by
  have e:subL (y::l) x=subS x y++subL l x:=bI;have ih:=BL hx ht ha (l:=l) (fun z hz=>h z (aw _ hz));rw[e,gL,ih,Io hx (h y au) ht ha];rfl
def uQ:∀{set l:LL},(∀x∈set,LotOk x)→(∀y∈l,LotOk y)→Apart set→lsum (set.foldl subL l)=lsum l - OO l set
 | [],l,_,_,_=>by show lsum l=lsum l - 0;omega
 | x::set,l,hs,hl,ha=>by
  obtain⟨a1,a2⟩:=List.pairwise_cons.1 ha;have hx:=hs x au;have a0:∀z∈set,LotOk z:=fun z hz=>hs z (aw _ hz);have ih:=uQ (set:=set) (l:=subL l x) a0 (nZ hx hl) a2
  have a3:∀{s:LL},(∀z∈s,LotOk z)→(∀z∈s,apart x z)→OO (subL l x) s=OO l s:=fun {s}=>by
   induction s with
   | nil=>intro _ _;rfl
   | cons z s ih2 =>
    intro g1 g2;have h1:=BL hx (g1 z au) (g2 z au) hl;have h2:=ih2 (fun q hq=>g1 q (aw _ hq)) (fun q hq=>g2 q (aw _ hq));show OV (subL l x) z+OO (subL l x) s=OV l z+OO l s;omega
  have h3:=rW hx hl;have h4:=a3 a0 a1;show lsum (set.foldl subL (subL l x))=lsum l - (OV l x+OO l set);omega
def vr:∀(r out:LL),lsum (r.foldl aZ out)=lsum out+lsum r
 | [],out=>by show lsum out=lsum out+0;omega
 | x::r,out=>by
  have:=vr r (aZ out x)
  rw[oW] at this;rw[gI];show lsum (r.foldl aZ (aZ out x))=_;omega
def wI{set:LL}(hs:∀x∈set,LotOk x)(ha:Apart set):∀{s out:LL},(∀y∈s,LotOk y)→lsum (s.foldl (fun out y=>(eQ set y).foldl aZ out) out)=lsum out+lsum s - OO s set
 | [],out,_=>by rw[zi];show lsum out=lsum out+0 - 0;omega
 | y::s,out,h=>by
  have hy:=h y au;have ih:=wI hs ha (s:=s) (out:=(eQ set y).foldl aZ out) (fun z hz=>h z (aw _ hz));have h1:lsum (eQ set y)=lsum [y] - OO [y] set:=uQ hs (fun z hz=>by rw[List.mem_singleton.1 hz];exact hy) ha;rw[gq] at h1;rw[vr,h1] at ih;rw[gI,uY];show lsum (s.foldl _ ((eQ set y).foldl aZ out))=_;omega
def nl{s set:LL}(h:∀y∈s,LotOk y)(hs:∀x∈set,LotOk x)(ha:Apart set):lsum (dS s set)=lsum s - OO s set:=by
 have:=wI hs ha (s:=s) (out:=[]) h
 rw[ik] at this;unfold dS;omega
def sl(x y:Lot):Prop:=x.1<y.1∨(x.1=y.1∧x.2.1+x.2.2<y.2.1)
structure MrgI (l:Lot) (z:LL×LL×Int×Int) (r:LL):Prop where
 lo:0≤z.2.2.1∧z.2.2.1≤l.2.1
 hi:l.2.1+l.2.2≤z.2.2.2
 hiC:z.2.2.2=l.2.1+l.2.2∨∀x∈r,x.1=l.1→z.2.2.2<x.2.1
 loC:z.2.2.1=l.2.1∨∀x∈r,x.1=l.1→l.2.1<x.2.1
 s1:(z.1++r).Pairwise sl
 s2:(z.2.1++r).Pairwise sl
 s3:∀y∈z.1,y.1<l.1∨(y.1=l.1∧y.2.1+y.2.2<z.2.2.1)
 s4:∀y∈z.2.1,(l.1<y.1∨(y.1=l.1∧z.2.2.2<y.2.1))∧1≤y.2.2
def zsum(z:LL×LL×Int×Int):Int:=lsum z.1+lsum z.2.1+(z.2.2.2 - z.2.2.1)
def zov(f:Int)(z:LL×LL×Int×Int)(t:Lot):Int:=OV z.1 t+OV z.2.1 t+ov (f,z.2.2.1,z.2.2.2 - z.2.2.1) t
def Ho{l:Lot}{z:LL×LL×Int×Int}{x:Lot}{r:LL}(hl:LotOk l)(hx:LotOk x)(h:MrgI l z (x::r)):MrgI l (insS l.1 z x) r∧zsum (insS l.1 z x)=zsum z+x.2.2 - ov x l∧(ov x l=0→∀t,LotOk t→zov l.1 (insS l.1 z x) t=zov l.1 z t+ov x t):=by
 obtain⟨⟨b0,b1⟩,b2,b3,b4,s1,s2,s3,s4⟩:=h;have a2:x∈x::r:=au;have hr:∀{y},y∈r→y∈x::r:=fun hy=>aw _ hy;have a4:∀y∈r,sl x y:=(List.pairwise_cons.1 (List.pairwise_append.1 s1).2.1).1;have a5:∀y∈z.1,sl y x:=fun y hy=>(List.pairwise_append.1 s1).2.2 y hy x a2;have a6:∀y∈z.2.1,sl y x:=fun y hy=>(List.pairwise_append.1 s2).2.2 y hy x a2;have a7:=hl;have a8:=hx;unfold LotOk at a7 a8;have a0:(z.1++r).Pairwise sl:=s1.sublist (List.Sublist.append_left (List.sublist_cons_self x r) _);have a1:(z.2.1++r).Pairwise sl:=s2.sublist (List.Sublist.append_left (List.sublist_cons_self x r) _);unfold insS;by_cases c1:x.1<l.1∨(x.1=l.1∧x.2.1+x.2.2<z.2.2.1)
 ·rw[if_pos c1];have e0:ov x l=0:=by unfold ov;split<;>omega
  refine⟨⟨⟨b0,b1⟩,b2,b3.imp id (fun q y hy=>q y (hr hy)),b4.imp id (fun q y hy=>q y (hr hy)),?_,a1,?_,s4⟩,?_,fun _ t _=>?_⟩
  ·rw[aF];exact s1
  ·intro y hy;rcases List.mem_append.1 hy with hy|hy
   ·exact s3 y hy
   ·rw[List.mem_singleton.1 hy];exact c1
  ·rw[e0];unfold zsum;dsimp only;rw[gV,gq];omega
  ·unfold zov;dsimp only;rw[gL,iM];omega
 rw[if_neg c1];by_cases c2:l.1<x.1∨z.2.2.2<x.2.1
 ·rw[if_pos c2];have e0:ov x l=0:=by unfold ov;split<;>omega
  refine⟨⟨⟨b0,b1⟩,b2,b3.imp id (fun q y hy=>q y (hr hy)),b4.imp id (fun q y hy=>q y (hr hy)),a0,?_,s3,?_⟩,?_,fun _ t _=>?_⟩
  ·rw[aF];exact s2
  ·intro y hy;rcases List.mem_append.1 hy with hy|hy
   ·exact s4 y hy
   ·rw[List.mem_singleton.1 hy];dsimp only;omega
  ·rw[e0];unfold zsum;dsimp only;rw[gV,gq];omega
  ·unfold zov;dsimp only;rw[gL,iM];omega
 rw[if_neg c2];have hf:x.1=l.1:=ab
 have a9:z.2.2.2=l.2.1+l.2.2:=by
  rcases b3 with q|q
  ·exact q
  ·have:=q x a2 hf
   omega
 have b5:z.2.2.1=l.2.1∨l.2.1<x.2.1:=b4.imp id (fun q=>q x a2 hf);refine⟨⟨⟨by dsimp only;omega,by dsimp only;omega⟩,by dsimp only;omega,?_,?_,a0,a1,?_,?_⟩,?_,fun e0 t ht=>?_⟩
 ·dsimp only;by_cases q:x.2.1+x.2.2≤l.2.1+l.2.2
  ·left;omega
  ·right;intro y hy a3;have:=a4 y hy
   unfold sl at this;omega
 ·dsimp only;by_cases q:z.2.2.1≤x.2.1
  ·rcases b4 with g|g
   ·left;omega
   ·right;intro y hy a3;exact g y (hr hy) a3
  ·right;intro y hy a3;have:=a4 y hy
   unfold sl at this;omega
 ·intro y hy;have g1:=s3 y hy;have g2:=a5 y hy;unfold sl at g2;dsimp only;omega
 ·intro y hy;exfalso;have g1:=s4 y hy;have g2:=a6 y hy;unfold sl at g2;omega
 ·unfold zsum ov;rw[if_pos hf];dsimp only;omega
 ·unfold ov at e0;rw[if_pos hf] at e0;unfold zov;dsimp only
  have key:ov (l.1,min z.2.2.1 x.2.1,max z.2.2.2 (x.2.1+x.2.2) - min z.2.2.1 x.2.1) t=ov (l.1,z.2.2.1,z.2.2.2 - z.2.2.1) t+ov x t:=by
   unfold LotOk at ht;unfold ov;dsimp only;by_cases g:l.1=t.1
   ·rw[if_pos g,if_pos g,if_pos (hf.trans g)];omega
   ·rw[if_neg g,if_neg g,if_neg (fun q=>g (hf▸q))];omega
  omega
def uB{l:Lot}(hl:LotOk l):∀{r:LL} {z:LL×LL×Int×Int},(∀x∈r,LotOk x)→MrgI l z r→MrgI l (r.foldl (insS l.1) z) []∧zsum (r.foldl (insS l.1) z)=zsum z+lsum r - OV r l∧(OV r l=0→∀t,LotOk t→zov l.1 (r.foldl (insS l.1) z) t=zov l.1 z t+OV r t)
 | [],z,_,h=>⟨h,by show zsum z=zsum z+0 - 0;omega,fun _ t _=>by show zov l.1 z t=zov l.1 z t+0;omega⟩
 | x::r,z,hr,h=>by
  obtain⟨h1,h2,h3⟩:=Ho hl (hr x au) h;obtain⟨i1,i2,i3⟩:=uB hl (r:=r) (z:=insS l.1 z x) (fun y hy=>hr y (aw _ hy)) h1;have e:OV (x::r) l=ov x l+OV r l:=rfl;have n1:=DW x l;have n2:=wB r l;refine⟨i1,?_,fun q t ht=>?_⟩
  ·show zsum (r.foldl (insS l.1) (insS l.1 z x))=_;rw[gI];omega
  ·have g1:=h3 ab t ht;have g2:=i3 ab t ht;show zov l.1 (r.foldl (insS l.1) (insS l.1 z x)) t=zov l.1 z t+(ov x t+OV r t);omega
def Hv{l:Lot}{s:LL}(hl:LotOk l)(hs:∀x∈s,LotOk x)(hp:s.Pairwise sl):(insL s l).Pairwise sl∧lsum (insL s l)=lsum s+l.2.2 - OV s l∧(OV s l=0→∀t,LotOk t→OV (insL s l) t=OV s t+ov l t):=by
 have a0:=hl;unfold LotOk at a0;obtain⟨⟨_,_,_,_,_,_,s3,s4⟩,h2,h3⟩:=uB hl (r:=s) (z:=([],[],l.2.1,l.2.1+l.2.2)) hs ⟨⟨a0.2.1,bB _⟩,bB _,.inl rfl,.inl rfl,hp,hp,(fun _ h=>by cases h),(fun _ h=>by cases h)⟩;have hm:=uB hl (r:=s) (z:=([],[],l.2.1,l.2.1+l.2.2)) hs ⟨⟨a0.2.1,bB _⟩,bB _,.inl rfl,.inl rfl,hp,hp,(fun _ h=>by cases h),(fun _ h=>by cases h)⟩;have p1:=hm.1.s1;have p2:=hm.1.s2;have q1:=hm.1.lo;have q2:=hm.1.hi;rw[aR] at p1 p2;have e:s.foldl (insS l.1) ([],[],l.2.1,l.2.1+l.2.2)=insG s l:=rfl;rw[e] at s3 s4 h2 h3 p1 p2 q1 q2;clear hm;have z0:zsum ([],[],l.2.1,l.2.1+l.2.2)=l.2.2:=by unfold zsum;dsimp only;rw[ik];omega
 unfold insL;generalize insG s l=z at *;refine⟨?_,?_,fun q t ht=>?_⟩
 ·refine List.pairwise_append.2 ⟨List.pairwise_append.2 ⟨p1,bH _ _,fun y hy w hw=>?_⟩,p2,fun y hy w hw=>?_⟩
  ·rw[List.mem_singleton.1 hw];have:=s3 y hy
   unfold sl;dsimp only;omega
  ·have g2:=s4 w hw;rcases List.mem_append.1 hy with hy|hy
   ·have g1:=s3 y hy;unfold sl;omega
   ·rw[List.mem_singleton.1 hy];unfold sl;dsimp only;omega
 ·rw[gV,gV,gq];rw[z0] at h2;unfold zsum at h2;dsimp only;omega
 ·have g:=h3 q t ht
  have e0:zov l.1 ([],[],l.2.1,l.2.1+l.2.2) t=ov l t:=by
   unfold zov;dsimp only;have:l.2.1+l.2.2 - l.2.1=l.2.2:=ab;rw[this];show 0+0+ov (l.1,l.2.1,l.2.2) t=ov l t;rw[show(l.1,l.2.1,l.2.2)=l from rfl];omega
  rw[e0] at g;unfold zov at g;rw[gL,gL,iM];omega
def lE{ps:LL}(h:∀x∈ps,LotOk x):∀i,i≤ps.length→(setL (ps.take i)).Pairwise sl∧lsum (setL (ps.take i))≤lsum (ps.take i)∧(lsum (setL (ps.take i))=lsum (ps.take i)→Apart (ps.take i)∧∀t,LotOk t→OV (setL (ps.take i)) t=OV (ps.take i) t)∧(Apart (ps.take i)→lsum (setL (ps.take i))=lsum (ps.take i))
 | 0,_=>⟨List.Pairwise.nil,bB _,fun _=>⟨List.Pairwise.nil,fun _ _=>rfl⟩,fun _=>rfl⟩
 | i+1,hi=>by
  obtain⟨h1,h2,h3,h4⟩:=lE h i ab;have a0:i<ps.length:=ab;have hx:=h _ (aJ a0);have a5:=(nq h i ab).2;have e:setL (ps.take (i+1))=insL (setL (ps.take i)) ps[i]!:=iq insL [] a0;have et:ps.take (i+1)=ps.take i++[ps[i]!]:=by rw[aG a0,getElem!_of a0]
  have a4:lsum (ps.take (i+1))=lsum (ps.take i)+ps[i]!.2.2:=eK ps a0;have a3:∀x∈ps.take i,LotOk x:=fun x hq=>h x (cc hq);obtain⟨g1,g2,g3⟩:=Hv hx a5 h1;have nn:=wB (setL (ps.take i)) ps[i]!;rw[e,a4];refine⟨g1,ab,fun q=>?_,fun q=>?_⟩
  ·obtain⟨a1,a2⟩:=h3 ab;have z:OV (setL (ps.take i)) ps[i]! = 0:=ab;rw[et];refine⟨List.pairwise_append.2 ⟨a1,bH _ _,fun y hy w hw=>?_⟩,fun t ht=>?_⟩
   ·rw[List.mem_singleton.1 hw];rw[a2 _ hx] at z;exact(qY (a3 y hy) hx).1 (uX z y hy)
   ·rw[g3 z t ht,a2 t ht,gL,iM]
  ·rw[et] at q;obtain⟨q1,_,q3⟩:=List.pairwise_append.1 q;have h5:=h4 q1;have h6:=(h3 h5).2 _ hx
   have z:∀{l:LL},(∀y∈l,LotOk y)→(∀y∈l,apart y ps[i]!)→OV l ps[i]! = 0:=fun {l}=>by
    induction l with
    | nil=>intro _ _;rfl
    | cons y l ih =>
     intro w1 w2;have e1:=(qY (w1 y au) hx).2 (w2 y au);have e2:=ih (fun q hq=>w1 q (aw _ hq)) (fun q hq=>w2 q (aw _ hq));show ov y ps[i]! + OV l ps[i]! = 0;omega
   have h7:=z a3 (fun y hy=>q3 y hy _ (cV _));omega
def mT{ps:LL}(h:∀x∈ps,LotOk x):lsum (setL ps)=lsum ps↔Apart ps:=by
 obtain⟨_,_,h3,h4⟩:=lE h ps.length (aB _);rw[bC] at h3 h4;exact⟨fun q=>(h3 q).1,h4⟩
def xa{s:LL}(h:s.Pairwise sl):Apart s:=h.imp (fun {a b} q=>by unfold sl at q;unfold apart;omega)
def wC{a b:LL}:∀{s:LL},(∀t∈s,OV a t=OV b t)→OO a s=OO b s
 | [],_=>rfl
 | x::s,h=>by
  have h1:=h x au;have h2:=wC (s:=s) (fun t ht=>h t (aw _ ht));show OV a x+OO a s=OV b x+OO b s;omega
def Cu{ps own:LL}(hw:fx ps own)(ha:Apart own)(hd:lsum (setL ps)=lsum ps):lsum (dS own ps)=lsum own - lsum ps:=by
 obtain⟨⟨h1,_⟩,⟨h2,_⟩,h3⟩:=hw;have hs:=lD h1;have e1:lsum (gr ps own)=lsum (setL ps) - OO (setL ps) own:=nl hs.2 h2 ha;rw[h3,ik] at e1;have a0:=(mT h1).1 hd;have e2:=nl h2 h1 a0;obtain⟨_,_,g3,_⟩:=lE h1 ps.length (aB _);rw[bC] at g3;have e3:OO (setL ps) own=OO ps own:=wC (fun t ht=>(g3 hd).2 t (h2 t ht));rw[Cr own ps] at e2;omega
def qi:∀{r out:LL},∀z∈r.foldl aZ out,∃y∈out++r,z.1=y.1
 | [],out,z,hz=>⟨z,bT _ hz,rfl⟩
 | x::r,out,z,hz=>by
  obtain⟨y,hy,e⟩:=qi (r:=r) (out:=aZ out x) z hz;rcases List.mem_append.1 hy with hy|hy
  ·have h:∀w∈aZ out x,∃v∈out++x::r,w.1=v.1:=by
    intro w hw;unfold aZ at hw;split at hw
    ·exact⟨w,bT _ hw,rfl⟩
    ·split at hw
     ·rename_i hc;rcases dz hw with hw|rfl
      ·exact⟨w,bT _ hw,rfl⟩
      ·exact⟨_,bT _ (aJ (ab:out.length - 1<out.length)),rfl⟩
     ·rcases List.mem_append.1 hw with hw|hw
      ·exact⟨w,bT _ hw,rfl⟩
      ·exact⟨w,bJ _ (by rw[List.mem_singleton.1 hw];exact au),rfl⟩
   obtain⟨v,hv,e2⟩:=h y hy;exact⟨v,hv,e.trans e2⟩
  ·exact⟨y,bJ _ (aw _ hy),e⟩
def nO:∀(r out:LL),r.foldl aZ out=(r.filter (fun x=>decide (x.2.2≠0))).foldl aZ out
 | [],_=>rfl
 | x::r,out=>by
  by_cases h:x.2.2=0
  ·rw[cJ (by simpa using h)];have e:aZ out x=out:=if_pos h;show r.foldl aZ (aZ out x)=_;rw[e];exact nO r out
  ·rw[cI (by simpa using h)];exact nO r (aZ out x)
def lj:∀{r out:LL},Apart (out++r)→(∀z∈out++r,1≤z.2.2)→Apart (r.foldl aZ out)
 | [],out,h,_=>by rwa [aR] at h
 | x::r,out,h,hn=>by
  have hx:=hn x (bJ _ au);have a8:out++x::r=(out++[x])++r:=by rw[aF];rfl
  by_cases hc:out.length≠0∧ky x out[out.length - 1]!
  case neg =>
   have e:aZ out x=out++[x]:=by unfold aZ;rw[if_neg ab,if_neg hc]
   show Apart (r.foldl aZ (aZ out x));rw[e];rw[a8] at h hn;exact lj h hn
  obtain⟨hl,hk⟩:=hc;have e:aZ out x=out.set (out.length - 1) (out[out.length - 1]!.1,out[out.length - 1]!.2.1,out[out.length - 1]!.2.2+x.2.2):=by unfold aZ;rw[if_neg ab,if_pos ⟨hl,hk⟩]
  rcases List.eq_nil_or_concat out with rfl|⟨a0,b,rfl⟩
  ·exact absurd rfl hl
  rw[List.concat_eq_append] at *
  have eb:(a0++[b])[(a0++[b]).length - 1]! = b:=by
   rw[getElem!_of ce];simp
  rw[eb] at e hk
  have es:(a0++[b]).set ((a0++[b]).length - 1) (b.1,b.2.1,b.2.2+x.2.2)=a0++[(b.1,b.2.1,b.2.2+x.2.2)]:=by
   rw[aq,aM,Nat.add_sub_cancel,List.set_append_right _ _ (aB _)];simp
  rw[es] at e;show Apart (r.foldl aZ (aZ (a0++[b]) x));rw[e];have a9:=lcont_iff.1 hk;have hb:=hn b (bT _ (bJ _ (cV _)));have e3:(a0++[b])++x::r=a0++(b::x::r):=by rw[aF];rfl
  rw[e3] at h hn;obtain⟨a1,a2,a3⟩:=List.pairwise_append.1 h;obtain⟨a4,a5⟩:=List.pairwise_cons.1 a2;obtain⟨a6,a7⟩:=List.pairwise_cons.1 a5;refine lj ?_ ?_
  ·rw[show(a0++[(b.1,b.2.1,b.2.2+x.2.2)])++r=a0++((b.1,b.2.1,b.2.2+x.2.2)::r) by rw[aF];rfl];refine List.pairwise_append.2 ⟨a1,List.pairwise_cons.2 ⟨fun z hz=>?_,a7⟩,fun z hz w hw=>?_⟩
   ·have g1:=a4 z (aw _ hz);have g2:=a6 z hz;have g3:=hn z (bJ _ (aw _ (aw _ hz)));unfold apart at g1 g2 ⊢;dsimp only;omega
   ·rcases List.mem_cons.1 hw with rfl|hw
    ·have g1:=a3 z hz b au;have g2:=a3 z hz x (aw _ au);have g3:=hn z (bT _ hz);unfold apart at g1 g2 ⊢;dsimp only;omega
    ·exact a3 z hz w (aw _ (aw _ hw))
  ·intro z hz;rcases List.mem_append.1 hz with hz|hz
   ·rcases List.mem_append.1 hz with hz|hz
    ·exact hn z (bT _ hz)
    ·rw[List.mem_singleton.1 hz];dsimp only;omega
   ·exact hn z (bJ _ (aw _ (aw _ hz)))
def pi{α β γ:Type}(f:γ→β→γ)(g:α→List β):∀(s:List α) (out:γ),(s.flatMap g).foldl f out=s.foldl (fun o y=>(g y).foldl f o) out
 | [],_=>rfl
 | y::s,out=>by
  rw[bI,cv];exact pi f g s _
def lN:∀(set l:LL),set.foldl subL l=l.flatMap (fun y=>set.foldl subL [y])
 | [],l=>by
  show l=l.flatMap (fun y=>[y]);induction l with
  | nil=>rfl
  | cons y l ih=>rw[bI,←ih];rfl
 | x::set,l=>by
  have e1:∀l,(x::set).foldl subL l=(subL l x).flatMap (fun y=>set.foldl subL [y]):=fun l=>lN set (subL l x);rw[e1];induction l with
  | nil=>rfl
  | cons y l ih =>
   have e2:subL (y::l) x=subL [y] x++subL l x:=by
    unfold subL;rw[bI,bI];simp
   rw[e2,dg,ih,bI];congr 1;exact(e1 [y]).symm
def oC(s set:LL):dS s set=(set.foldl subL s).foldl aZ []:=by
 rw[lN,pi];rfl
def Gx:∀{set l:LL},(∀x∈set,LotOk x)→(∀y∈l,LotOk y)→Apart l→(∀y∈set.foldl subL l,LotOk y∧∃w∈l,y.1=w.1)∧Apart (set.foldl subL l)∧(set.foldl subL l).length≤l.length+set.length
 | [],l,_,hl,ha=>⟨fun y hy=>⟨hl y hy,y,hy,rfl⟩,ha,aB _⟩
 | x::set,l,hs,hl,ha=>by
  have hx:=hs x au;obtain⟨h1,h2⟩:=mD hx hl ha;obtain⟨i1,i2,i3⟩:=Gx (set:=set) (l:=subL l x) (fun z hz=>hs z (aw _ hz)) (nZ hx hl) h1;refine⟨fun y hy=>?_,i2,?_⟩
  ·obtain⟨g1,w,hw,e⟩:=i1 y hy;obtain⟨v,hv,_,e2,_⟩:=mN hx hl hw;exact⟨g1,v,hv,e.trans e2⟩
  ·rw[bD];show(set.foldl subL (subL l x)).length≤_;omega
structure StkG (k:Nat) (id:Int) (l:LL):Prop where
 len:l.length≤k
 ok:∀x∈l,LotOk x∧x.1<id
 apt:Apart l
def StkG.lots{k:Nat}{id:Int}{l:LL}(h:StkG k id l):∀x∈l,LotOk x:=fun x hx=>(h.ok x hx).1
def StkG.mono{k k' : Nat}{id a0 : Int}{l:LL}(h:StkG k id l)(hk:k≤k')(hi:id≤a0):StkG k' a0 l:=⟨cO h.len hk,fun x hx=>⟨(h.ok x hx).1,by have:=(h.ok x hx).2;omega⟩,h.apt⟩
def uq{k:Nat}{id:Int}{l ps:LL}(h:StkG k id l)(hp:∀x∈ps,LotOk x):StkG (k+ps.length) id (dS l ps):=by
 obtain⟨c1,c2,c3⟩:=Gx hp h.lots h.apt;have hl:=h.len;rw[oC];refine⟨?_,fun x hx=>?_,lj c2 (fun z hz=>(c1 z hz).1.2.2.2.1)⟩
 ·have:=iQ (ps.foldl subL l) []
  simp only[cB] at this;omega
 ·obtain⟨y,hy,e⟩:=qi (r:=ps.foldl subL l) (out:=[]) x hx;rw[al] at hy;obtain⟨_,w,hw,e2⟩:=c1 y hy;have:=(h.ok w hw).2
  refine⟨lK ce (fun z hz=>(c1 z hz).1.w) x hx,?_⟩;rw[e,e2];exact this
def BW{mixed:Bool}{k:Nat}{id n:Int}{l:LL}(h:StkG k id l)(hk:l.length≤4096)(h0:0≤n)(h1:n≤lsum l):StkG k id (eU mixed l n):=by
 have hb:=nY mixed l n h.lots h0 h1;have a1:=(ub h.lots hb).2;refine⟨cO (kn _ _ _).2 h.len,fun x hx=>⟨a1 x hx,?_⟩,?_⟩
 ·obtain⟨y,hy,e⟩:=qi (r:=(List.range l.length).map (pcR l (tkC mixed l n))) (out:=[]) x hx;rw[al] at hy;obtain⟨j,hj,rfl⟩:=List.mem_map.1 hy;have hj:=List.mem_range.1 hj;have:=(h.ok _ (aJ hj)).2
  rw[e];exact this
 ·show Apart (((List.range l.length).map (pcR l (tkC mixed l n))).foldl aZ []);rw[nO]
  have a2:Apart ((List.range l.length).map (pcR l (tkC mixed l n))):=by
   unfold Apart;rw[List.pairwise_map];refine List.Pairwise.imp_of_mem ?_ List.pairwise_lt_range;intro i j hi hj a0;have hi:=List.mem_range.1 hi;have hj:=List.mem_range.1 hj;have ha:=List.pairwise_iff_getElem.1 h.apt i j hi hj a0;rw[←getElem!_of hi,←getElem!_of hj] at ha;have b1:=hb i hi;have b2:=hb j hj;unfold apart at ha ⊢;simp only[pcR,pc1,pc2];omega
  refine lj ?_ ?_
  ·rw[al];exact a2.filter _
  ·intro z hz;rw[al] at hz;obtain⟨g1,g2⟩:=List.mem_filter.1 hz;obtain⟨j,hj,rfl⟩:=List.mem_map.1 g1;have hj:=List.mem_range.1 hj;have b1:=hb j hj;have g3:(pcR l (tkC mixed l n) j).2.2≠0:=by simpa using g2
   simp only[pcR,pc1,pc2] at g3 ⊢;omega
def Jw{k:Nat}{id n:Int}{l:LL}(h:StkG k id l)(a0:0≤id)(hn:1≤n∧n≤1099511627776):StkG (k+1) (id+1) (aZ l (id,0,n)):=by
 rw[oY h.lots hn.1];have hl:=h.len;refine⟨by rw[aq,aM];omega,fun x hx=>?_,List.pairwise_append.2 ⟨h.apt,bH _ _,fun y hy w hw=>?_⟩⟩
 ·rcases List.mem_append.1 hx with hx|hx
  ·have:=h.ok x hx
   exact⟨this.1,ab⟩
  ·rw[List.mem_singleton.1 hx];refine⟨⟨a0,bB _,by dsimp only;omega,hn.1,by dsimp only;omega⟩,by dsimp only;omega⟩
 ·rw[List.mem_singleton.1 hw];have:=(h.ok y hy).2
  unfold apart;dsimp only;omega
def gPts(mix:Int→Bool)(s:StM)(W:Wk)(m:MvM):LL:=if m.frm=0 then(if s.kind=5∨s.kind=9 then m.parts else[]) else if m.parts=[] then gW (mix m.item) (W.stk m.frm m.item) m.n else m.parts
def lV(mix:Int→Bool)(W:Wk)(m:MvM):LL:=if m.parts=[] then eU (mix m.item) (W.stk m.frm m.item) m.n else dS (W.stk m.frm m.item) m.parts
def gStk(mix:Int→Bool)(W:Wk)(m:MvM):Int→Int→LL:=if m.frm=0 then W.stk else upd2 W.stk m.frm m.item (lV mix W m)
def gErr(sh:Int)(fl:List FlM)(s:StM)(W:Wk)(m:MvM):Int :=
 if m.frm=0 then(if s.kind=5 then arrG sh fl m.parts else if s.kind=9 then revG fl m.item m.parts else 0)
 else if m.parts=[] then(if lsum (W.stk m.frm m.item)<m.n then 10 else 0) else if fx m.parts (W.stk m.frm m.item) then 0 else 10
def fk(sh:Int)(nf:Nat)(mix:Int→Bool)(s:StM)(W:Wk)(m:MvM):FlM:=⟨cL sh nf W,s.id,s.kind,s.tick,s.actor,m.frm,m.to,m.item,m.n,gPts mix s W m,cW s W m⟩
def cC(sh:Int)(fl:List FlM)(mix:Int→Bool)(s:StM)(W:Wk)(m:MvM):Int×Wk :=
 if gErr sh (fl++W.flows) s W m≠0 then(gErr sh (fl++W.flows) s W m,W)
 else if cw W m>1099511627776 then(4,W)
 else if m.to=0 then(0,⟨gStk mix W m,upd W.tot m.item (cw W m),W.flows++[fk sh fl.length mix s W m],W.sunk++[cL sh fl.length W]⟩)
 else if 4096≤(gStk mix W m m.to m.item).length then(4,W)
 else(0,⟨upd2 (gStk mix W m) m.to m.item (aZ (gStk mix W m m.to m.item) (cL sh fl.length W,0,m.n)),upd W.tot m.item (cw W m),W.flows++[fk sh fl.length mix s W m],W.sunk⟩)
def FlG(fl:List FlM):Prop:=∀f∈fl,(∀x∈f.parts,LotOk x)∧f.parts.length≤2047
structure WkG (sh:Int) (fl:List FlM) (k:Nat) (W:Wk):Prop where
 stk:∀a i,StkG k (cL sh fl.length W) (W.stk a i)
 tot:∀i,-(((fl.length:Int)+W.flows.length)*1099511627776)≤W.tot i∧W.tot i≤1099511627776
 sunk:W.sunk.length≤W.flows.length
 flows:FlG W.flows
structure MvG (m:MvM):Prop where
 n:1≤m.n∧m.n≤1099511627776
 ne:m.frm≠m.to
 parts:m.parts=[]∨oo m.parts m.n
def MvG.lots{m:MvM}(h:MvG m):∀x∈m.parts,LotOk x:=fun x hx=>by
 rcases h.parts with q|q
 ·rw[q] at hx;cases hx
 ·exact q.1.1 x hx
def tW{sh:Int}{fl:List FlM}{mix:Int→Bool}{s:StM}{W:Wk}{k:Nat}{m:MvM}(h:WkG sh fl k W)(hm:MvG m)(hk:k≤2000)(he:gErr sh (fl++W.flows) s W m=0)(a i:Int):StkG (k+m.parts.length) (cL sh fl.length W) (gStk mix W m a i):=by
 unfold gStk;unfold gErr at he;by_cases h0:m.frm=0
 ·rw[if_pos h0];exact(h.stk a i).mono (eu _ _) (bB _)
 rw[if_neg h0] at he ⊢;unfold upd2;by_cases ha:a=m.frm∧i=m.item
 case neg =>
  rw[if_neg ha];exact(h.stk a i).mono (eu _ _) (bB _)
 rw[if_pos ha];have hs:=h.stk m.frm m.item;have hl:=hs.len;have hn:=hm.n;unfold lV;by_cases hp:m.parts=[]
 ·rw[if_pos hp] at he ⊢;by_cases hq:lsum (W.stk m.frm m.item)<m.n
  ·rw[if_pos hq] at he;exact absurd he ae
  ·exact(BW hs ab ab ab).mono (eu _ _) (bB _)
 ·rw[if_neg hp];exact uq hs hm.lots
def Gf{sh:Int}{fl:List FlM}{mix:Int→Bool}{s:StM}{W:Wk}{k:Nat}{m:MvM}(h:WkG sh fl k W)(hm:MvG m)(hk:k+m.parts.length≤2000)(he:gErr sh (fl++W.flows) s W m=0):(∀x∈gPts mix s W m,LotOk x)∧(gPts mix s W m).length≤2047:=by
 have hs:=h.stk m.frm m.item;have hl:=hs.len;have hn:=hm.n;unfold gErr at he;unfold gPts;by_cases h0:m.frm=0
 ·rw[if_pos h0];split
  ·exact⟨hm.lots,ab⟩
  ·exact⟨(fun x hx=>by cases hx),ax _⟩
 rw[if_neg h0] at he ⊢;by_cases hp:m.parts=[]
 ·rw[if_pos hp] at he ⊢;by_cases hq:lsum (W.stk m.frm m.item)<m.n
  ·rw[if_pos hq] at he;exact absurd he ae
  ·exact⟨(ub hs.lots (nY _ _ _ hs.lots ab ab)).1,cO (kn _ _ _).1 ab⟩
 ·rw[if_neg hp];exact⟨hm.lots,ab⟩
def ph{sh:Int}{fl:List FlM}{mix:Int→Bool}{s:StM}{W:Wk}{k:Nat}{m:MvM}(a5:0≤sh)(h:WkG sh fl k W)(hm:MvG m)(hk:k+m.parts.length≤2000)(he:(cC sh fl mix s W m).1=0):WkG sh fl (k+m.parts.length+1) (cC sh fl mix s W m).2∧(cC sh fl mix s W m).2.flows=W.flows++[fk sh fl.length mix s W m]:=by
 unfold cC at he ⊢;by_cases h1:gErr sh (fl++W.flows) s W m≠0
 ·rw[if_pos h1] at he;exact absurd he h1
 rw[if_neg h1] at he ⊢;have a2 : gErr sh (fl++W.flows) s W m=0:=Classical.not_not.1 h1;by_cases h2:cw W m>1099511627776
 ·rw[if_pos h2] at he;exact absurd (show(4:Int)=0 from he) ae
 rw[if_neg h2] at he ⊢;have hS:=fun a i=>tW (mix:=mix) h hm ab a2 a i;have hP:=Gf (mix:=mix) h hm hk a2;have hn:=hm.n
 have a3:FlG (W.flows++[fk sh fl.length mix s W m]):=fun f hf=>by
  rcases List.mem_append.1 hf with hf|hf
  ·exact h.flows f hf
  ·rw[List.mem_singleton.1 hf];exact hP
 have a4:∀{W2:Wk},W2.flows=W.flows++[fk sh fl.length mix s W m]→cL sh fl.length W2=cL sh fl.length W+1:=fun {W2} e=>by
  unfold cL;rw[e,aq,aM];omega
 have a1:0≤cL sh fl.length W:=by unfold cL;omega
 have a0:∀i,-(((fl.length:Int)+(W.flows++[fk sh fl.length mix s W m]).length)*1099511627776)≤upd W.tot m.item (cw W m) i∧upd W.tot m.item (cw W m) i≤1099511627776:=fun i=>by
  rw[aq,aM];unfold upd;have t1:=h.tot i;have t2:=h.tot m.item;split
  ·refine⟨?_,ab⟩;unfold cw;split<;>split<;>omega
  ·omega
 by_cases h3:m.to=0
 ·rw[if_pos h3];refine⟨⟨fun a i=>?_,a0,?_,a3⟩,rfl⟩
  ·rw[a4 rfl];exact(hS a i).mono ab ab
  ·have:=h.sunk
   simp only[aq,aM];omega
 rw[if_neg h3] at he ⊢;by_cases h4:4096≤(gStk mix W m m.to m.item).length
 ·rw[if_pos h4] at he;exact absurd (show(4:Int)=0 from he) ae
 rw[if_neg h4];refine⟨⟨fun a i=>?_,a0,?_,a3⟩,rfl⟩
 ·rw[a4 rfl];dsimp only;unfold upd2;split
  ·exact Jw (hS m.to m.item) a1 hn
  ·exact(hS a i).mono ab ab
 ·have:=h.sunk
  simp only[aq,aM];omega
def kL{x y:Lot}(h:y.1≠x.1∨x.2.1+x.2.2≤y.2.1∨y.2.1+y.2.2≤x.2.1):subS x y=[y]:=if_pos h
def jX{x y:Lot}(h:¬(y.1≠x.1∨x.2.1+x.2.2≤y.2.1∨y.2.1+y.2.2≤x.2.1)):subS x y=(if y.2.1<x.2.1 then[(x.1,y.2.1,x.2.1 - y.2.1)] else[])++(if x.2.1+x.2.2<y.2.1+y.2.2 then[(x.1,x.2.1+x.2.2,y.2.1+y.2.2 - x.2.1 - x.2.2)] else[]):=if_neg h
def rj{α β:Type}(c:Prop)[Decidable c](a:α)(g:α→List β):(if c then[a] else[]).flatMap g=if c then g a else[]:=by
 split
 ·simp
 ·rfl
def nG{x:Lot}{l:LL}(h:∀z∈l,apart z x):l.flatMap (subS x)=l:=kM h
def kH{α β:Type}(a:α)(g:α→List β):[a].flatMap g=g a:=by simp
def th{x y z:Lot}(hx:LotOk x)(hy:LotOk y)(hz:LotOk z)(a0:x.1=z.1)(a1:y.1=z.1)(h:x.2.1+x.2.2≤y.2.1):(subS x z).flatMap (subS y)=(subS y z).flatMap (subS x):=by
 by_cases c1:x.2.1+x.2.2≤z.2.1∨z.2.1+z.2.2≤x.2.1
 ·rw[kL (x:=x) (y:=z) (.inr c1),kH,nG];intro w hw;obtain⟨_,_,h2,h3⟩:=lC hy hz hw;unfold apart;omega
 by_cases c2:y.2.1+y.2.2≤z.2.1∨z.2.1+z.2.2≤y.2.1
 ·rw[kL (x:=y) (y:=z) (.inr c2),kH,nG];intro w hw;obtain⟨_,_,h2,h3⟩:=lC hx hz hw;unfold apart;omega
 obtain⟨f,a,n⟩:=x;obtain⟨g,c,m⟩:=y;obtain⟨q,s,k⟩:=z;unfold LotOk at hx hy hz;dsimp only at *;obtain rfl:=a0;obtain rfl:=a1;rw[jX fi,jX fi];dsimp only;rw[dg,dg,rj,rj,rj,rj];rw[if_pos (ab:a+n<s+k),if_pos (ab:s<c)];rw[jX (x:=(g,c,m)) (y:=(g,a+n,s+k - a - n)) fi,jX (x:=(g,a,n)) (y:=(g,s,c - s)) fi];rw[kL (x:=(g,a,n)) (y:=(g,c+m,s+k - c - m)) fi,kL (x:=(g,c,m)) (y:=(g,s,a - s)) fi];dsimp only;rw[aF];congr 1;congr 1
 ·by_cases e:a+n<c
  ·rw[if_pos e,if_pos ab,show s+(c - s) - a - n=c - (a+n) by omega]
  ·rw[if_neg e,if_neg ab]
 ·by_cases e:c+m<s+k
  ·rw[if_pos e,if_pos ab,show a+n+(s+k - a - n) - c - m=s+k - c - m by omega]
  ·rw[if_neg e,if_neg ab]
def Ff{x y z:Lot}(hx:LotOk x)(hy:LotOk y)(hz:LotOk z)(h:apart x y):(subS x z).flatMap (subS y)=(subS y z).flatMap (subS x):=by
 by_cases f1:x.1=z.1
 case neg =>
  rw[kL (x:=x) (y:=z) (.inl (fun e=>f1 e.symm)),kH,nG];intro w hw;obtain⟨_,e,_⟩:=lC hy hz hw;exact .inl (fun q=>f1 (q.symm.trans e))
 by_cases f2:y.1=z.1
 case neg =>
  rw[kL (x:=y) (y:=z) (.inl (fun e=>f2 e.symm)),kH,nG];intro w hw;obtain⟨_,e,_⟩:=lC hx hz hw;exact .inl (fun q=>f2 (q.symm.trans e))
 rcases h with h|h|h
 ·exact absurd (f1.trans f2.symm) h
 ·exact th hx hy hz f1 f2 h
 ·exact(th hy hx hz f2 f1 h).symm
def qO(x y:Lot):∀l:LL,subL (subL l x) y=l.flatMap (fun z=>(subS x z).flatMap (subS y))
 | []=>rfl
 | z::l=>by
  have ih:=qO x y l;unfold subL at ih ⊢;rw[bI,dg,ih,bI]
def vQ{α β:Type}{g h:α→List β}:∀{l:List α},(∀z∈l,g z=h z)→l.flatMap g=l.flatMap h
 | [],_=>rfl
 | z::l,e=>by
  rw[bI,bI,e z au,vQ (fun y hy=>e y (aw _ hy))]
def Fg{x y:Lot}{l:LL}(hx:LotOk x)(hy:LotOk y)(hl:∀z∈l,LotOk z)(h:apart x y):subL (subL l x) y=subL (subL l y) x:=by
 rw[qO,qO];exact vQ (fun z hz=>Ff hx hy (hl z hz) h)
def HJ{ps qs:LL}(p:ps.Perm qs):∀{l:LL},(∀x∈ps,LotOk x)→Apart ps→(∀y∈l,LotOk y)→ps.foldl subL l=qs.foldl subL l:=by
 induction p with
 | nil=>intro l _ _ _;rfl
 | cons x p ih =>
  intro l h1 h2 h3;have hx:=h1 x au;exact ih (fun y hy=>h1 y (aw _ hy)) (List.pairwise_cons.1 h2).2 (nZ hx h3)
 | swap x y l' =>
  intro l h1 h2 h3;have hy:=h1 y au;have hx:=h1 x (aw _ au);have ha:=(List.pairwise_cons.1 h2).1 x au;show l'.foldl subL (subL (subL l y) x)=l'.foldl subL (subL (subL l x) y);rw[Fg hy hx h3 ha]
 | trans p1 p2 ih1 ih2 =>
  intro l h1 h2 h3;rw[ih1 h1 h2 h3];refine ih2 (fun x hx=>h1 x (p1.mem_iff.2 hx)) ?_ h3;exact(p1.pairwise_iff (fun {a b} q=>by unfold apart at *;omega)).1 h2
end
section
open Go.V
attribute [local irreducible] G GO GP GPW GPK Ev Ef EfR Ent CB GB V.Enters
abbrev Hd:=Int×Int×Int
def ir(h:Int×Int×Int):LV:=[ac h.1,ac h.2.1,ac h.2.2]
def vN(t:Hd):∀u∈ir t,u.oneCell' = true:=by simp[ir,Value.oneCell']
abbrev tHd:Nat:=112
def hdC(x y:Hd):Int:=orI (cmpI x.1 y.1) (cmpI x.2.1 y.2.1)
def klt(x y:Hd):Prop:=x.1<y.1∨(x.1=y.1∧x.2.1<y.2.1)
def nb(x y:Hd):hdC x y<0↔klt x y:=by
 unfold hdC orI cmpI klt;(repeat' split)<;>omega
def uI:Go.Sort.SWO (ltOf hdC) where
 irrefl x:=by simp only[ltOf,decide_eq_false_iff_not];rw[nb];unfold klt;omega
 trans x y z h1 h2:=by simp only[ltOf,decide_eq_true_eq] at *;rw[nb] at *;unfold klt at *;omega
 ntrans x y z h1 h2:=by simp only[ltOf,decide_eq_false_iff_not] at *;rw[nb] at *;unfold klt at *;omega
structure HoldL (f:Int→Int→Int) (hs:List Hd):Prop where
 srt:hs.Pairwise klt
 mem:∀h,h∈hs↔h.2.2=f h.1 h.2.1∧h.2.2≠0
def tR{x:Hd}:¬klt x x:=by unfold klt;omega
def FR{x y:Hd}(h:klt x y):¬klt y x:=by unfold klt at *;omega
def pE:∀{l m:List Hd},l.Pairwise klt→m.Pairwise klt→(∀x,x∈l↔x∈m)→l=m
 | [],[],_,_,_=>rfl
 | [],y::m,_,_,h=>absurd ((h y).2 au) ce
 | x::l,[],_,_,h=>absurd ((h x).1 au) ce
 | x::l,y::m,h1,h2,h=>by
  obtain⟨a1,a2⟩:=List.pairwise_cons.1 h1;obtain⟨b1,b2⟩:=List.pairwise_cons.1 h2
  have e:x=y:=by
   rcases List.mem_cons.1 ((h x).1 au) with e|hx
   ·exact e
   ·rcases List.mem_cons.1 ((h y).2 au) with e|hy
    ·exact e.symm
    ·exact absurd (a1 y hy) (FR (b1 x hx))
  subst e;rw[pE a2 b2 (fun z=>?_)];constructor
  ·intro hz;rcases List.mem_cons.1 ((h z).1 (aw _ hz)) with e|q
   ·exact absurd (e▸a1 z hz) tR
   ·exact q
  ·intro hz;rcases List.mem_cons.1 ((h z).2 (aw _ hz)) with e|q
   ·exact absurd (e▸b1 z hz) tR
   ·exact q
def HoldL.unique{f g:Int→Int→Int}{l m:List Hd}(h1:HoldL f l)(h2:HoldL g m)(e:∀a i,f a i=g a i):l=m :=
 pE h1.srt h2.srt (fun x=>by rw[h1.mem,h2.mem,e])
end
section
open Go.V
def gG(x:Lot)(s:LL×Int×Int)(p:Lot):LL×Int×Int :=
 if max p.2.1 s.2.1 ≥ min (p.2.1+p.2.2) (x.2.1+x.2.2) then s
 else(aZ s.1 (x.1,s.2.1,max p.2.1 s.2.1 - s.2.1),min (p.2.1+p.2.2) (x.2.1+x.2.2),s.2.2 - (min (p.2.1+p.2.2) (x.2.1+x.2.2) - max p.2.1 s.2.1))
def wLot(x:Lot)(ps:LL)(s:LL×Int):LL×Int :=
 (aZ (ps.foldl (gG x) (s.1,x.2.1,s.2)).1 (x.1,(ps.foldl (gG x) (s.1,x.2.1,s.2)).2.1,x.2.1+x.2.2 - (ps.foldl (gG x) (s.1,x.2.1,s.2)).2.1),(ps.foldl (gG x) (s.1,x.2.1,s.2)).2.2)
def ofF(ys:LL)(f:Int):LL:=ys.filter (fun p=>decide (p.1=f))
def wAll(ys:LL)(a0:LL)(s:LL×Int):LL×Int:=a0.foldl (fun s x=>wLot x (ofF ys x.1) s) s
def curL(x:Lot)(at_:Int):LL:=if at_<x.2.1+x.2.2 then[(x.1,at_,x.2.1+x.2.2 - at_)] else[]
def Ord(ys:LL):Prop:=ys.Pairwise (fun a b=>a.2.1+a.2.2≤b.2.1)
def Cg(a b:LL):∀ps:LL,ps.foldl subL (a++b)=ps.foldl subL a++ps.foldl subL b:=fun ps=>by
 rw[lN ps (a++b),lN ps a,lN ps b,dg]
def ox:∀{ps l:LL},(∀p∈ps,∀z∈l,apart z p)→ps.foldl subL l=l
 | [],_,_=>rfl
 | p::ps,l,h=>by
  show ps.foldl subL (subL l p)=l;rw[kM (h p au)];exact ox (fun q hq=>h q (aw _ hq))
def rU{x:Lot}(hx:LotOk x):∀(ys:LL) (out:LL) (at_ a0:Int),Ord ys→(∀p∈ys,LotOk p∧p.1=x.1)→x.2.1≤at_→at_≤x.2.1+x.2.2 →
  aZ (ys.foldl (gG x) (out,at_,a0)).1 (x.1,(ys.foldl (gG x) (out,at_,a0)).2.1,x.2.1+x.2.2 - (ys.foldl (gG x) (out,at_,a0)).2.1)=(ys.foldl subL (curL x at_)).foldl aZ out ∧
  (ys.foldl (gG x) (out,at_,a0)).2.2=a0 - OV ys (x.1,at_,x.2.1+x.2.2 - at_)
 | [],out,at_,a0,_,_,h1,h2=>by
  refine⟨?_,by show a0=a0 - 0;omega⟩;show aZ out (x.1,at_,x.2.1+x.2.2 - at_)=(curL x at_).foldl aZ out;unfold curL;by_cases c:at_<x.2.1+x.2.2
  ·rw[if_pos c];rfl
  ·rw[if_neg c];show _=out;exact if_pos fi
 | p::ys,out,at_,a0,ho,hp,h1,h2=>by
  obtain⟨o1,o2⟩:=List.pairwise_cons.1 ho;obtain⟨a4,a2⟩:=hp p au;have a1:∀q∈ys,LotOk q∧q.1=x.1:=fun q hq=>hp q (aw _ hq);have a3:=a4;unfold LotOk at a3 hx;by_cases c:max p.2.1 at_ ≥ min (p.2.1+p.2.2) (x.2.1+x.2.2)
  ·have es:gG x (out,at_,a0) p=(out,at_,a0):=if_pos c
   have ec:subL (curL x at_) p=curL x at_:=by
    unfold curL;split
    ·refine kM (fun z hz=>?_);rw[List.mem_singleton.1 hz];unfold apart;dsimp only;omega
    ·rfl
   obtain⟨i1,i2⟩:=rU (by unfold LotOk;omega) ys out at_ a0 o2 a1 h1 h2
   have e0:ov p (x.1,at_,x.2.1+x.2.2 - at_)=0:=by
    unfold ov;rw[if_pos a2];dsimp only;omega
   show aZ (ys.foldl (gG x) (gG x (out,at_,a0) p)).1 _=(ys.foldl subL (subL (curL x at_) p)).foldl aZ out∧(ys.foldl (gG x) (gG x (out,at_,a0) p)).2.2=a0 - (ov p _+OV ys _);rw[es,ec,e0];refine⟨?_,by rw[i2];omega⟩;have a5:=i1;rw[show List.foldl (gG x) (out,at_,a0) (p::ys)=List.foldl (gG x) (gG x (out,at_,a0) p) ys from rfl,es];exact a5
  ·have es:gG x (out,at_,a0) p=(aZ out (x.1,at_,max p.2.1 at_ - at_),min (p.2.1+p.2.2) (x.2.1+x.2.2),a0 - (min (p.2.1+p.2.2) (x.2.1+x.2.2) - max p.2.1 at_)):=if_neg c;obtain⟨i1,i2⟩:=rU (by unfold LotOk;omega) ys (aZ out (x.1,at_,max p.2.1 at_ - at_)) (min (p.2.1+p.2.2) (x.2.1+x.2.2)) (a0 - (min (p.2.1+p.2.2) (x.2.1+x.2.2) - max p.2.1 at_)) o2 a1 ab ab
   have ec:subL (curL x at_) p=(if at_<p.2.1 then[(x.1,at_,p.2.1 - at_)] else[])++curL x (min (p.2.1+p.2.2) (x.2.1+x.2.2)):=by
    unfold curL;rw[if_pos (ab:at_<x.2.1+x.2.2)];show subL [_] p=_;unfold subL;rw[kH,jX fi];dsimp only;rw[a2];congr 1;by_cases e:p.2.1+p.2.2<x.2.1+x.2.2
    ·rw[if_pos ab,if_pos ab,show min (p.2.1+p.2.2) (x.2.1+x.2.2)=p.2.1+p.2.2 by omega,show at_+(x.2.1+x.2.2 - at_) - p.2.1 - p.2.2=x.2.1+x.2.2 - (p.2.1+p.2.2) by omega]
    ·rw[if_neg ab,if_neg ab]
   have e0:ov p (x.1,at_,x.2.1+x.2.2 - at_)=min (p.2.1+p.2.2) (x.2.1+x.2.2) - max p.2.1 at_:=by
    unfold ov;rw[if_pos a2];dsimp only;omega
   have e1:OV ys (x.1,at_,x.2.1+x.2.2 - at_)=OV ys (x.1,min (p.2.1+p.2.2) (x.2.1+x.2.2),x.2.1+x.2.2 - min (p.2.1+p.2.2) (x.2.1+x.2.2)):=by
    clear i1 i2 ho o2 hp es ec e0;revert o1 a1;induction ys with
    | nil=>intro _ _;rfl
    | cons q ys ih =>
     intro o1 a1;have h5:=ih (fun z hz=>o1 z (aw _ hz)) (fun z hz=>a1 z (aw _ hz));have h6:=o1 q au;obtain⟨h7,h8⟩:=a1 q au;unfold LotOk at h7;show ov q _+OV ys _=ov q _+OV ys _;rw[h5];congr 1;unfold ov;rw[if_pos h8,if_pos h8];dsimp only;omega
   have ei:ys.foldl subL (if at_<p.2.1 then[(x.1,at_,p.2.1 - at_)] else[])=(if at_<p.2.1 then[(x.1,at_,p.2.1 - at_)] else[]):=by
    refine ox (fun q hq z hz=>?_);split at hz
    ·rw[List.mem_singleton.1 hz];have:=o1 q hq
     unfold apart;dsimp only;omega
    ·cases hz
   have ep:∀r:LL,((if at_<p.2.1 then[((x.1,at_,p.2.1 - at_):Lot)] else[])++r).foldl aZ out=r.foldl aZ (aZ out (x.1,at_,max p.2.1 at_ - at_)):=fun r=>by
    rw[cv];by_cases e:at_<p.2.1
    ·rw[if_pos e,show max p.2.1 at_=p.2.1 by omega];rfl
    ·rw[if_neg e];show r.foldl aZ out=_;rw[show aZ out (x.1,at_,max p.2.1 at_ - at_)=out from if_pos fi]
   rw[show List.foldl (gG x) (out,at_,a0) (p::ys)=List.foldl (gG x) (gG x (out,at_,a0) p) ys from rfl,es];show aZ _ _=(ys.foldl subL (subL (curL x at_) p)).foldl aZ out∧_=a0 - (ov p _+OV ys _);rw[ec,Cg,ei,ep,e0,e1];exact⟨i1,by rw[i2];omega⟩
end
section
open Go.V
attribute [local irreducible] G GO GP GPW GPK Ev Ef EfR Ent CB GB V.Enters
def jf{L:LH}(x:Lot)(hx:LotW x):Tri ai 232 #[aO (aj x)] L (rtQ (ac (x.2.1+x.2.2)) L):=by
 unfold LotW at hx;refine Tri.bd ?_;refine JM ?_;intros;exact KX.en ⟨rfl,rfl⟩
def mL{L:LH}(ad:OA)(cap n c:Nat)(xs:LL)(x:Lot)(hn:n=xs.length)(a5:c=cap)(hl:xs.length≤100000000)(a6:∀y∈xs,LotW y)(hx:LotW x) :
  Tri ai 240 #[ah ad n c,ac x.1,ac x.2.1,ac x.2.2] (osl aj 3 tLot ad cap xs::L) (fun v L'=>∃a4 a1,v=ah a4 (aZ xs x).length a1∧L' = osl aj 3 tLot a4 a1 (aZ xs x)::L):=by
 subst hn a5;refine Tri.bd (args:=[ah ad xs.length c,ac x.1,ac x.2.1,ac x.2.2]) ?_;by_cases h0:x.2.2=0
 ·have e:aZ xs x=xs:=by unfold aZ;rw[if_pos h0]
  rw[e];refine JM ?_;intros;exact KX.en ⟨ad,c,rfl,rfl⟩
 by_cases h1:xs.length=0
 ·have e:aZ xs x=xs++[x]:=by unfold aZ;rw[if_neg h0,if_neg (fun h=>h.1 h1)]
  rw[e];refine JM ?_;intros;refine GO.ef (Ef.d7 (enc:=aj) (e:=x) rfl rfl rfl rfl rfl aK (bX _) ab ab) ae ?_;rintro _ _⟨ad2,a0,rfl,rfl⟩;refine JM ?_;intros;exact KX.en ⟨ad2,a0,rfl,rfl⟩
 have a2:((xs.length:Int) - 1).toNat=xs.length - 1:=ab;have a3:=a6 _ (aJ (ab:xs.length - 1<xs.length));have a8:((xs.length:Int) - 1).toNat<xs.length:=ab;rw[←a2] at a3;by_cases hf:xs[((xs.length:Int) - 1).toNat]!.1=x.1
 case neg =>
  have e:aZ xs x=xs++[x]:=by
   unfold aZ;rw[a2] at hf;rw[if_neg h0,if_neg (fun h=>hf (lcont_iff.1 h.2).1.symm)]
  rw[e];refine JM ?_;intros;refine GO.ef (Ef.d7 (enc:=aj) (e:=x) rfl rfl rfl rfl rfl aK (bX _) ab ab) ae ?_;rintro _ _⟨ad2,a0,rfl,rfl⟩;refine JM ?_;intros;exact KX.en ⟨ad2,a0,rfl,rfl⟩
 refine JM ?_;intros;refine GO.cr (jf xs[((xs.length:Int) - 1).toNat]! a3) ?_;by_cases hc:ky x xs[((xs.length:Int) - 1).toNat]!
 ·have a7:=lcont_iff.1 hc;unfold LotW at a3 hx;refine JM ?_;intros;refine GO.efu (Ef.e9 (e:=((xs[((xs.length:Int) - 1).toNat]!.1,xs[((xs.length:Int) - 1).toNat]!.2.1,xs[((xs.length:Int) - 1).toNat]!.2.2+x.2.2):Lot)) rfl rfl aK rfl ab ae) ?_;rintro _ _ rfl
  have e:aZ xs x=xs.set ((xs.length:Int) - 1).toNat (xs[((xs.length:Int) - 1).toNat]!.1,xs[((xs.length:Int) - 1).toNat]!.2.1,xs[((xs.length:Int) - 1).toNat]!.2.2+x.2.2):=by
   unfold aZ;rw[a2] at hc ⊢;rw[if_neg h0,if_pos ⟨h1,hc⟩]
  rw[e];refine JM ?_;intros;exact KX.d7 an ag ⟨ad,c,by rw[bh];rfl,rfl⟩
 ·have a9:¬xs[((xs.length:Int) - 1).toNat]!.2.1+xs[((xs.length:Int) - 1).toNat]!.2.2=x.2.1:=fun q=>hc (lcont_iff.2 ⟨hf.symm,q.symm⟩)
  have e:aZ xs x=xs++[x]:=by
   unfold aZ;rw[a2] at hc;rw[if_neg h0,if_neg (fun h=>hc h.2)]
  rw[e];refine JM ?_;intros;refine GO.ef (Ef.d7 (enc:=aj) (e:=x) rfl rfl rfl rfl rfl aK (bX _) ab ab) ae ?_;rintro _ _⟨ad2,a0,rfl,rfl⟩;refine JM ?_;intros;exact KX.en ⟨ad2,a0,rfl,rfl⟩
abbrev Bl:=aH1 [.ev 8,.ef 9,.ev 10]
abbrev Bk:=aH4 [.ef 17,.ev 18]
def RQ{φ ψ:Prop}(k:ψ)(h:Hid ψ→φ:=by intro k;(repeat (first|refine aa ?_|intro zzz|refine G.dr 46 4 Bl ?_|refine G.dr 46 5 Bk ?_));(repeat revert zzz);exact Hid.out k):φ:=h ⟨k⟩
def vT{L:LH}(ad:OA)(n c:Nat)(l:LL)(ad2:OA)(n2 c2:Nat)(cs:List Int)[hr:Rds L ad Lot aj 3 l][c1:Rds L ad2 Int (encZ .i64) 1 cs](hn:n=l.length)(b4:n2=cs.length)(c0:l.length≤4096)(b9:cs.length=l.length)(hl:∀x∈l,LotW x)(hc:∀k,k<l.length→0≤cs[k]!∧cs[k]!≤l[k]!.2.2) :
  Tri ai 156 #[ah ad n c,ah ad2 n2 c2] L (fun v L'=>∃ad3 c3 a7 c4,v=.tuple #[ah ad3 (divF l (fun k=>cs[k]!) l.length).length c3,ah a7 (divR l (fun k=>cs[k]!) l.length).length c4]∧L' = osl aj 3 tLot ad3 c3 (divF l (fun k=>cs[k]!) l.length)::osl aj 3 tLot a7 c4 (divR l (fun k=>cs[k]!) l.length)::L):=by
 subst hn b4;generalize hf:(fun k=>cs[k]! : Nat→Int)=f;have a0:∀k,cs[k]! = f k:=fun k=>by rw[←hf]
 refine Tri.bd ?_;refine RQ ?_;intros;refine G.loop (α:=Nat×OA×Nat×OA×Nat) (fun g=>g.1≤l.length) (fun g=>[(1,ah ad2 cs.length c2),(4,ah g.2.1 (divF l f g.1).length g.2.2.1),(5,ah g.2.2.2.1 (divR l f g.1).length g.2.2.2.2),(8,ah ad l.length c),(9,ac l.length),(10,ac (g.1:Int))]) (fun g=>osl aj 3 tLot g.2.1 g.2.2.1 (divF l f g.1)::osl aj 3 tLot g.2.2.2.1 g.2.2.2.2 (divR l f g.1)::L) (fun g=>l.length - g.1) (0,none,0,none,0) (ax _) av ((Ent.d8 aj 3 tLot).trans (Ent.d8 aj 3 tLot)) ?_;rintro⟨i,a3,c3,a4,c4⟩ hi;dsimp only at hi ⊢;by_cases a2:i<l.length
 case neg =>
  obtain rfl:i=l.length:=ab;refine RQ ?_;intros;exact KX.en ⟨a3,c3,a4,c4,rfl,rfl⟩
 have a1:(i:Int).toNat=i:=aC i;have b0 : (i:Int).toNat<l.length:=ab;have b3:(i:Int).toNat<cs.length:=ab;obtain⟨b1,b2⟩:=hc i a2;rw[a0] at b1 b2;have a8:=hl _ (aJ a2);have hx:=a8;unfold LotW at hx;refine RQ ?_;intros;have a9:=kn l f i;have b5:∀y∈divF l f i,LotW y:=(wz hl (fun k hk=>by have:=hc k hk;rw[a0] at this;exact this) i hi).1;have b6:∀y∈divR l f i,LotW y:=(wz hl (fun k hk=>by have:=hc k hk;rw[a0] at this;exact this) i hi).2
 have eF:aZ (divF l f i) (l[(i:Int).toNat]!.1,l[(i:Int).toNat]!.2.1,cs[(i:Int).toNat]!)=divF l f (i+1):=by
  rw[qI,a1,a0];rfl
 have eR:aZ (divR l f i) (l[(i:Int).toNat]!.1,l[(i:Int).toNat]!.2.1+cs[(i:Int).toNat]!,l[(i:Int).toNat]!.2.2 - cs[(i:Int).toNat]!)=divR l f (i+1):=by
  rw[nD,a1,a0];rfl
 have b7 : LotW l[(i:Int).toNat]!:=by rw[a1];exact a8
 have b8 : 0≤cs[(i:Int).toNat]!∧cs[(i:Int).toNat]!≤l[(i:Int).toNat]!.2.2:=by rw[a1];exact hc i a2
 unfold LotW at b7;(first|refine GPW.ef (Ef.call (mL (L:=[]) a3 c3 _ _ (divF l f i) (l[(i:Int).toNat]!.1,l[(i:Int).toNat]!.2.1,cs[(i:Int).toNat]!) rfl rfl ab b5 (by unfold LotW;dsimp only;omega)) rfl cN) ae ?_);rintro _ _⟨_,⟨a5,c5,rfl,rfl⟩,hL⟩;simp only[ao,al] at hL;subst hL;rw[eF];refine RQ ?_;intros;(first|refine GPW.ef (Ef.call (mL (L:=[]) a4 c4 _ _ (divR l f i) (l[(i:Int).toNat]!.1,l[(i:Int).toNat]!.2.1+cs[(i:Int).toNat]!,l[(i:Int).toNat]!.2.2 - cs[(i:Int).toNat]!) rfl rfl ab b6 (by unfold LotW;dsimp only;omega)) rfl cN) ae ?_);rintro _ _⟨_,⟨a6,c6,rfl,rfl⟩,hL⟩;simp only[ao,al] at hL;subst hL;rw[eR];refine RQ ?_;intros;refine⟨(i+1,a5,c5,a6,c6),by dsimp only;omega,by dsimp only;omega,?_,by exact ag⟩;dsimp only;rw[aY i];exact av
def Bn{L:LH}(ad:OA)(n c:Nat)(l:LL)(m:Int)[hr:Rds L ad Lot aj 3 l](hn:n=l.length)(a8:l.length≤4096)(hl:∀x∈l,LotW x)(h0:0≤m)(h1:m≤1099511627776) :
  Tri ai 154 #[ah ad n c,ac m] L (fun v L'=>∃a3 a0,v=ah a3 l.length a0∧L' = osl (encZ .i64) 1 tInt a3 a0 ((List.range l.length).map (fuC l m))::L):=by
 subst hn;refine Tri.bd ?_;refine JM ?_;intros;refine GO.ef (Ef.makeSlice (encZ .i64) 0 rfl rfl rfl ab ab ab) ae ?_;rintro _ _⟨bp,rfl,rfl⟩;rw[aC,←km l.length (fuC l m)];refine JM ?_;intros;refine G.loop (α:=Nat) (fun i=>i≤l.length) (fun i=>[(1,ac (fuR l m i)),(5,ah (some ⟨bp,0,none⟩) l.length l.length),(11,ah ad l.length c),(12,ac l.length),(13,ac (i:Int))]) (fun i=>osl (encZ .i64) 1 tInt (some ⟨bp,0,none⟩) l.length (gC l.length i (fuC l m))::L) (fun i=>l.length - i) 0 (ax _) av (Ent.refl _) ?_;intro i hi;have a4:=kd l.length i (fuC l m);by_cases a2:i<l.length
 case neg =>
  obtain rfl:i=l.length:=ab;rw[kZ];refine JM ?_;intros;exact KX.en ⟨some ⟨bp,0,none⟩,l.length,rfl,rfl⟩
 have a1:(i:Int).toNat=i:=aC i;have a7 : (i:Int).toNat<l.length:=ab;have hx:=hl _ (aJ a2);unfold LotW at hx;obtain⟨b1,b2⟩:=ou h0 hl i hi;obtain⟨b3,b4⟩:=ou h0 hl (i+1) a2;have e1:fuR l m (i+1)=fuR l m i - fuC l m i:=rfl;have e2:(gC l.length i (fuC l m)).set i (fuC l m i)=gC l.length (i+1) (fuC l m):=kY (fuC l m) a2
 have e3:(gC l.length (i+1) (fuC l m))[i]! = fuC l m i:=by
  rw[←e2,getElem!_of (by rw[bh];omega),List.getElem_set_self]
 have a5:=kd l.length (i+1) (fuC l m);have hq:min (fuR l m i) l[(i:Int).toNat]!.2.2=fuC l m i:=by rw[a1];rfl
 have a6:((gC l.length i (fuC l m)).set (i:Int).toNat (min (fuR l m i) l[(i:Int).toNat]!.2.2)).length=l.length:=by rw[bh];exact a4
 have e4:(gC l.length i (fuC l m)).set (i:Int).toNat (min (fuR l m i) l[(i:Int).toNat]!.2.2)=gC l.length (i+1) (fuC l m):=by rw[hq,a1,e2]
 have e5:((gC l.length i (fuC l m)).set (i:Int).toNat (min (fuR l m i) l[(i:Int).toNat]!.2.2))[(i:Int).toNat]! = fuC l m i:=by rw[e4,a1,e3]
 refine JM ?_;intros;refine⟨i+1,ab,ab,?_,by rw[e4];exact ag⟩;rw[e1,aY i,←e5];exact av
