/- Lemmas. -/
import Derived.Test.YtommnllbflbdmaaGreatDoorAbb
set_option linter.all false
set_option maxHeartbeats 4000000
namespace Go.Proofs.YtommnllbflbdmaaGreatDoor
section
open Go.V
attribute [local irreducible] G GO GP GPW GPK Ev Ef EfR Ent CB GB V.Enters
def FlOk(fl:List FlV):Prop:=fl.length≤9000000∧∀f∈fl,(∀x∈f.m.parts,LotOk x)∧f.m.parts.length≤2047
def lV(fl:List FlM)(p:Lot):Prop:=∃f∈fl,f.kind=5∧gL f.parts [p]≠[]
instance (fl:List FlM)(p:Lot):Decidable (lV fl p):=by unfold lV;infer_instance
def arr1(sh:Int)(fl:List FlM)(p:Lot):Int:=if p.1 / 4294967296=sh∨11<p.1 / 4294967296 then 1 else if lV fl p then 8 else 0
def arrG(sh:Int)(fl:List FlM):LL→Int
 | []=>0
 | p::ps=>if arr1 sh fl p=0 then arrG sh fl ps else arr1 sh fl p
def kI(fl:List FlM)(item:Int)(p:Lot):Prop:=(¬ ∃f∈fl,f.kind=9∧f.frm=0∧gL f.parts [p]≠[])∧∃f∈fl,f.kind≠6∧f.to=0∧f.item=item∧fF [p] [(f.id,0,f.n)]
instance (fl:List FlM)(item:Int)(p:Lot):Decidable (kI fl item p):=by unfold kI;infer_instance
def revG(fl:List FlM)(item:Int)(ps:LL):Int:=if ∀p∈ps,kI fl item p then 0 else 10
def pO{p:Lot}(h:LotOk p):dM [p]:=⟨fun x hx=>by rw[List.mem_singleton.1 hx];exact h,by show 1≤4096;omega⟩
def BK{fl:List FlV}(h:FlOk fl){p:Lot}(hp:LotOk p){f:FlV}(hf:f∈fl):dM f.m.parts∧(gr f.m.parts [p]).length≤4096:=by
 obtain⟨h1,h2⟩:=h.2 f hf;refine⟨⟨h1,ab⟩,?_⟩;have:=(kX h1 (pO hp).1).2
 rw[aJ] at this;omega
def vz{fl:List FlV}{k:Nat}(h:k<fl.length){L:LH}:Ent (allP flP fl::L) (isl aj 3 fl[k]!.pad fl[k]!.m.parts::isl (encZ .i64) 1 fl[k]!.mad fl[k]!.m.made::allP flP fl::L):=(Ent.e7 (f:=flP) (aI h)).trans Ent.andE
def sV{xs:LL}{i:Nat}(h:i<xs.length):(xs.drop i).take 1=[xs[i]!]:=by
 rw[eZ h];rfl
abbrev zO:=ay8 [.ev 17,.ev 18,.ev 19,.ev 20,.ev 21,.ev 22,.ef 23,.ev 24,.ev 25,.ev 26]
def QS{φ ψ:Prop}(k:ψ)(h:Hid ψ→φ:=by intro k;(repeat (first|refine aa ?_|intro zzz|refine G.dr 66 10 zO ?_));(repeat revert zzz);exact Hid.out k):φ:=h ⟨k⟩
def xe{L:LH}(b:Nat)(sh:Int)(x:RLX)(a9:FlOk x.flows)(ad:OA)(n c:Nat)(ps:LL)[hr:Rds L ad Lot aj 3 ps](hn:n=ps.length)(hc:ps.length≤c)(hv:∀p∈ps,LotOk p)(hb:∀p∈ps,p.1≤9223372036854775807)(hl:ps.length≤4096) :
  Tri ai 227 #[ax b,ah ad n c] (rlL b sh x L) (fun v L'=>v=ac (arrG sh (x.flows.map FlV.m) ps)∧L' = rlL b sh x L):=by
 subst hn;have b1:=a9.1;refine Tri.bd ?_;simp only[rlL,aL];refine QS ?_;intros;refine G.loop (α:=Nat) (fun i=>i≤ps.length∧arrG sh (x.flows.map FlV.m) ps=arrG sh (x.flows.map FlV.m) (ps.drop i)) (fun i=>[(0,ax b),(1,ah ad ps.length c),(5,ac (i:Int))]) (fun _=>rlL b sh x L) (fun i=>ps.length - i) 0 ⟨aw _,rfl⟩ av (by simp only[rlL,aL];exact ae) ?_;rintro i ⟨hi,he⟩;simp only[rlL,aL];by_cases a8:i<ps.length
 case neg =>
  have e0:ps.drop i=[]:=bC ab;rw[e0] at he;refine QS ?_;intros;exact KX.d7 al ae ⟨by rw[he];rfl,rfl⟩
 have a5:(i:Int).toNat=i:=aC i;have a3 : (i:Int).toNat<ps.length:=ab;have a6:=hv _ (aI a3);have b6:=a6.1;have b7:=hb _ (aI a3);have b4:ps.drop i=ps[(i:Int).toNat]!::ps.drop (i+1):=by rw[a5];exact eZ a8
 rw[b4] at he
 haveI hrd:Rds L (advA ad c 3 i) Lot aj 3 [ps[(i:Int).toNat]!]:=by
  have h:=Rds.take (Rds.drop hr hc i) 1;rwa [sV a8,←a5,a5] at h
 have a4:arrG sh (x.flows.map FlV.m) (ps[(i:Int).toNat]!::ps.drop (i+1))=if arr1 sh (x.flows.map FlV.m) ps[(i:Int).toNat]! = 0 then arrG sh (x.flows.map FlV.m) (ps.drop (i+1)) else arr1 sh (x.flows.map FlV.m) ps[(i:Int).toNat]!:=rfl;rw[a4] at he;refine QS ?_;intros;generalize hpg:ps[(i:Int).toNat]! = p at *;by_cases h1:p.1 / 4294967296=sh
 ·have e1:arr1 sh (x.flows.map FlV.m) p=1:=if_pos (.inl h1);rw[e1,if_neg ag] at he;refine QS ?_;intros;exact KX.d7 al ae ⟨by rw[he];rfl,rfl⟩
 by_cases h2:11<p.1 / 4294967296
 ·have e1:arr1 sh (x.flows.map FlV.m) p=1:=if_pos (.inr h2);rw[e1,if_neg ag] at he;refine QS ?_;intros;exact KX.d7 al ae ⟨by rw[he];rfl,rfl⟩
 have e1:arr1 sh (x.flows.map FlV.m) p=if lV (x.flows.map FlV.m) p then 8 else 0:=if_neg (fun q=>q.elim h1 h2);rw[e1] at he;refine QS ?_;intros;refine G.loop (α:=Nat) (fun k=>k≤x.flows.length∧∀j,j<k→¬(x.flows[j]!.m.kind=5∧gL x.flows[j]!.m.parts [p]≠[])) (fun k=>[(0,ax b),(1,ah ad ps.length c),(5,ac (i:Int)),(7,ac (k:Int))]) (fun _=>rlL b sh x L) (fun k=>x.flows.length - k) 0 ⟨aw _,fun j hj=>absurd hj (cl j)⟩ av (by simp only[rlL,aL];exact ae) ?_;rintro k ⟨hk,a1⟩;simp only[rlL,aL];by_cases b5:k<x.flows.length
 case neg =>
  have b3:¬lV (x.flows.map FlV.m) p:=by
   rintro⟨f,hf,h3,h4⟩;obtain⟨u,hu,rfl⟩:=List.mem_map.1 hf;obtain⟨j,hj,rfl⟩:=List.mem_iff_getElem.1 hu;refine a1 j ab ?_;rw[getElem!_of hj];exact⟨h3,h4⟩
  rw[if_neg b3,if_pos rfl] at he;refine QS ?_;intros;refine⟨i+1,⟨ab,he⟩,ab,?_,?_⟩
  ·rw[aV i];exact av
  ·try simp only[rlL,aL]
   exact ae
 have b2:(k:Int).toNat=k:=aC k;have a2 : (k:Int).toNat<x.flows.length:=ab;have b0:=BK a9 a6 (aI a2)
 have a0:¬(x.flows[(k:Int).toNat]!.m.kind=5∧gL x.flows[(k:Int).toNat]!.m.parts [p]≠[])→∀j,j<k+1→¬(x.flows[j]!.m.kind=5∧gL x.flows[j]!.m.parts [p]≠[]):=fun h j hj=>by
  rcases cc j k with h3|h3
  ·exact a1 j h3
  ·obtain rfl:j=k:=ab;rw[b2] at h;exact h
 by_cases h3:x.flows[(k:Int).toNat]!.m.kind=5
 case neg =>
  refine QS ?_;intros;refine⟨k+1,⟨ab,a0 (fun q=>h3 q.1)⟩,ab,?_,?_⟩
  ·rw[aV k];exact av
  ·try simp only[rlL,aL]
   exact ae
 refine G.ent (L':=isl aj 3 x.flows[(k:Int).toNat]!.pad x.flows[(k:Int).toNat]!.m.parts::rlL b sh x L) ((Ent.at (A:=allP flP x.flows) (vz a2)).trans (by simp only[rlL,aL];exact ae)) ?_;simp only[rlL,aL];refine QS ?_;intros;rw[a5,show((i:Int)+1).toNat - i=1 by omega];refine GPW.ca (tw x.flows[(k:Int).toNat]!.pad x.flows[(k:Int).toNat]!.m.parts.length x.flows[(k:Int).toNat]!.pcap x.flows[(k:Int).toNat]!.m.parts (advA ad c 3 i) 1 _ [p] rfl rfl b0.1 (pO a6) b0.2) ?_;rintro _ _⟨ad2,c2,rfl,rfl⟩;by_cases h4:gL x.flows[(k:Int).toNat]!.m.parts [p]=[]
 ·have h5:((gL x.flows[(k:Int).toNat]!.m.parts [p]).length:Int)=0:=by rw[h4];rfl
  refine QS ?_;intros;refine⟨k+1,⟨ab,a0 (fun q=>q.2 h4)⟩,ab,?_,?_⟩
  ·rw[aV k];exact av
  ·try simp only[rlL,aL]
   exact ae
 ·have h5:0<((gL x.flows[(k:Int).toNat]!.m.parts [p]).length:Int):=by
   have:=List.length_pos_iff.2 h4
   omega
  have a7:lV (x.flows.map FlV.m) p:=⟨x.flows[(k:Int).toNat]!.m,alStd0List_mem_map_of_mem (aI a2),h3,h4⟩;rw[if_pos a7,if_neg ag] at he;refine QS ?_;intros;exact KX.d7 al ae ⟨by rw[he];rfl,rfl⟩
def gotP(f:FlM)(item:Int)(p:Lot):Prop:=f.kind≠6∧f.to=0∧f.item=item∧fF [p] [(f.id,0,f.n)]
def gotN(fl:List FlV)(item:Int)(p:Lot)(k:Nat):Prop:=∃j,j<k∧gotP fl[j]!.m item p
noncomputable instance (fl:List FlV) (item:Int) (p:Lot) (k:Nat):Decidable (gotN fl item p k):=Classical.propDecidable _
def FJ(fl:List FlV)(item:Int)(p:Lot):¬gotN fl item p 0:=fun⟨_,hj,_⟩=>absurd hj (cl _)
def FK{fl:List FlV}{item:Int}{p:Lot}{k:Nat}:gotN fl item p (k+1)↔gotN fl item p k∨gotP fl[k]!.m item p:=by
 constructor
 ·rintro⟨j,hj,h⟩;rcases cc j k with h3|h3
  ·exact .inl ⟨j,h3,h⟩
  ·obtain rfl:j=k:=ab;exact .inr h
 ·rintro (⟨j,hj,h⟩|h)
  ·exact⟨j,ab,h⟩
  ·exact⟨k,ab,h⟩
abbrev zN:=ay8 [.ef 17,.ev 18,.ev 19,.ev 20]
def cV{φ ψ:Prop}(k:ψ)(h:Hid ψ→φ:=by intro k;(with_reducible apply G.d7);first|refine G.dr 89 13 zN (Hid.out k)):φ:=h ⟨k⟩
def Rd{φ ψ:Prop}(k:ψ)(h:Hid ψ→φ:=by intro k;(repeat (first|refine aa ?_|intro zzz|refine G.dr 89 13 zN ?_));(repeat revert zzz);exact Hid.out k):φ:=h ⟨k⟩
def wU{L:LH}(b:Nat)(sh:Int)(x:RLX)(b5:FlOk x.flows)(m:MvV)[hr:Rds L m.pad Lot aj 3 m.m.parts](hc:m.m.parts.length≤m.pcap)(hv:∀p∈m.m.parts,LotOk p)(hl:m.m.parts.length≤4096) :
  Tri ai 228 #[ax b,aN (aM m)] (rlL b sh x L) (fun v L'=>v=ac (revG (x.flows.map FlV.m) m.m.item m.m.parts)∧L' = rlL b sh x L):=by
 obtain⟨⟨frm,to,item,n,ps⟩,ad,c⟩:=m;dsimp only at hr hc hv hl;have b6:=b5.1;have a5:∀{p:Lot},p∈ps→¬kI (x.flows.map FlV.m) item p→revG (x.flows.map FlV.m) item ps=10:=fun hp h=>if_neg (fun q=>h (q _ hp));refine Tri.bd (args:=[ax b,aN (aM ⟨⟨frm,to,item,n,ps⟩,ad,c⟩)]) ?_;simp only[rlL,aL,aM];refine Rd ?_;intros;rename_i b3;refine G.loop (α:=Nat) (fun i=>i≤ps.length∧∀j,j<i→kI (x.flows.map FlV.m) item ps[j]!) (fun i=>[(0,ax b),(3,ax b3),(5,ac (i:Int))]) (fun _=>rlL b sh x (obj b3 tMv [ac frm,ac to,ac item,ac n,ah ad ps.length c]::L)) (fun i=>ps.length - i) 0 ⟨aw _,fun j hj=>absurd hj (cl j)⟩ av (by simp only[rlL,aL];exact ae) ?_;rintro i ⟨hi,a3⟩;simp only[rlL,aL];by_cases b0:i<ps.length
 case neg =>
  have e0:revG (x.flows.map FlV.m) item ps=0:=if_pos (fun p hp=>by
   obtain⟨j,hj,rfl⟩:=List.mem_iff_getElem.1 hp;have:=a3 j ab
   rwa [getElem!_of hj] at this)
  rw[e0];refine Rd ?_;intros;exact KX.en ⟨rfl,rfl⟩
 have b4:(i:Int).toNat=i:=aC i;have a6:=aI b0;have b2:=hv _ a6
 haveI hrd:Rds L (advA ad c 3 i) Lot aj 3 [ps[i]!]:=by
  have h:=Rds.take (Rds.drop hr hc i) 1;rwa [sV b0] at h
 generalize hpg:ps[i]! = p at *;refine Rd ?_;intros;refine G.loop (α:=Nat) (fun k=>k≤x.flows.length∧∀j,j<k→¬(x.flows[j]!.m.kind=9∧x.flows[j]!.m.frm=0∧gL x.flows[j]!.m.parts [p]≠[])) (fun k=>[(0,ax b),(3,ax b3),(5,ac (i:Int)),(6,.bool (dB (gotN x.flows item p k))),(7,ac (k:Int))]) (fun _=>rlL b sh x (obj b3 tMv [ac frm,ac to,ac item,ac n,ah ad ps.length c]::L)) (fun k=>x.flows.length - k) 0 ⟨aw _,fun j hj=>absurd hj (cl j)⟩ ?_ (by simp only[rlL,aL];exact ae) ?_
 ·rw[aG (FJ _ _ _)];exact av
 rintro k ⟨hk,a2⟩;simp only[rlL,aL];by_cases b1:k<x.flows.length
 case neg =>
  obtain rfl:k=x.flows.length:=ab
  have b7:¬ ∃f∈x.flows.map FlV.m,f.kind=9∧f.frm=0∧gL f.parts [p]≠[]:=by
   rintro⟨f,hf,h3⟩;obtain⟨u,hu,rfl⟩:=List.mem_map.1 hf;obtain⟨j,hj,rfl⟩:=List.mem_iff_getElem.1 hu;refine a2 j hj ?_;rw[getElem!_of hj];exact h3
  have a4:gotN x.flows item p x.flows.length↔kI (x.flows.map FlV.m) item p:=by
   constructor
   ·rintro⟨j,hj,h3⟩;exact⟨b7,_,alStd0List_mem_map_of_mem (aI hj),h3⟩
   ·rintro⟨_,f,hf,h3⟩;obtain⟨u,hu,rfl⟩:=List.mem_map.1 hf;obtain⟨j,hj,rfl⟩:=List.mem_iff_getElem.1 hu;refine⟨j,hj,?_⟩;rw[getElem!_of hj];exact h3
  by_cases hb:kI (x.flows.map FlV.m) item p
  ·rw[aS (a4.2 hb)];refine Rd ?_;intros;refine⟨i+1,⟨ab,fun j hj=>?_⟩,ab,?_,?_⟩
   ·rcases cc j i with h3|h3
    ·exact a3 j h3
    ·obtain rfl:j=i:=ab;rw[hpg];exact hb
   ·rw[aV i];exact av
   ·try simp only[rlL,aL]
    exact ae
  ·rw[aG (fun q=>hb (a4.1 q)),a5 a6 hb];refine Rd ?_;intros;exact KX.en ⟨rfl,rfl⟩
 have c3:(k:Int).toNat=k:=aC k;have c0 : (k:Int).toNat<x.flows.length:=ab;have a9:=aI b1;have a8:=BK b5 b2 a9;refine G.ent (L':=isl aj 3 x.flows[k]!.pad x.flows[k]!.m.parts::rlL b sh x (obj b3 tMv [ac frm,ac to,ac item,ac n,ah ad ps.length c]::L)) ((Ent.at (A:=allP flP x.flows) (vz b1)).trans (by simp only[rlL,aL];exact ae)) ?_;simp only[rlL,aL];refine Rd ?_;intros;rw[c3];have a7:=FK (fl:=x.flows) (item:=item) (p:=p) (k:=k)
 have a0:¬(x.flows[k]!.m.kind=9∧x.flows[k]!.m.frm=0∧gL x.flows[k]!.m.parts [p]≠[])→∀j,j<k+1→¬(x.flows[j]!.m.kind=9∧x.flows[j]!.m.frm=0∧gL x.flows[j]!.m.parts [p]≠[]):=fun h j hj=>by
  rcases cc j k with h3|h3
  ·exact a2 j h3
  ·obtain rfl:j=k:=ab;exact h
 have c1:x.flows[k]!.m.kind=9∧x.flows[k]!.m.frm=0∧gL x.flows[k]!.m.parts [p]≠[]→¬kI (x.flows.map FlV.m) item p:=fun h q=>q.1 ⟨_,alStd0List_mem_map_of_mem a9,h⟩;generalize hf:x.flows[k]! = f at *;simp only[bL];refine Rd ?_;intros;rename_i b8 b9;rw[b4,show((i:Int)+1).toNat - i=1 by omega];refine GO.ent (L':=osl aj 3 tLot (some ⟨b9,0,none⟩) 1 [(f.m.id,0,f.m.n)]::obj b8 cz (bL f)::isl aj 3 f.pad f.m.parts::rlL b sh x (obj b3 tMv [ac frm,ac to,ac item,ac n,ah ad ps.length c]::L)) ?_ ?_
 ·refine Ent.trans (B:=obj b9 tLot (aj (f.m.id,0,f.m.n))::obj b8 cz (bL f)::isl aj 3 f.pad f.m.parts::rlL b sh x (obj b3 tMv [ac frm,ac to,ac item,ac n,ah ad ps.length c]::L)) (by simp only[rlL,aL,aj,bL];exact ae) ?_;exact Ent.f7 (enc:=aj) (sz:=3) (xs:=[(f.m.id,0,f.m.n)]) bZ rfl (by intro z hz;rw[List.mem_singleton.1 hz];rfl) bZ
 simp only[rlL,aL];refine GO.cr (pS (advA ad c 3 i) 1 _ [p] (some ⟨b9,0,none⟩) 1 1 [(f.m.id,0,f.m.n)] rfl rfl ag ag) ?_;repeat first|((fail_if_success (with_reducible refine G.d9 11 ?_));(with_reducible apply G.seq))|refine bW ?_|intro _|refine cV ?_
 refine G.d8 (α:=Unit) (fun _=>True) (fun _=>[(0,ax b),(3,ax b3),(5,ac (i:Int)),(6,.bool (dB (gotN x.flows item p (k+1)))),(7,ac (k:Int)),(8,ax b8)]) (fun _=>obj b8 cz (bL f)::isl aj 3 f.pad f.m.parts::rlL b sh x (obj b3 tMv [ac frm,ac to,ac item,ac n,ah ad ps.length c]::L)) ?_ ?_
 ·have a1:∀{q:Prop},¬q→(gotP f.m item p→q)→dB (gotN x.flows item p k)=dB (gotN x.flows item p (k+1)):=fun h1 h2=>by
   have h3:gotN x.flows item p (k+1)↔gotN x.flows item p k:=⟨fun h=>(a7.1 h).resolve_right (fun r=>h1 (h2 r)),fun h=>a7.2 (.inl h)⟩;by_cases h4:gotN x.flows item p k
   ·rw[aS h4,aS (h3.2 h4)]
   ·rw[aG h4,aG (fun r=>h4 (h3.1 r))]
  simp only[bL];by_cases g1:f.m.kind=6
  ·rw[a1 (fun q=>q g1) (fun r=>r.1)];refine Rd ?_;intros;exact⟨(),trivial,av,by exact ae⟩
  by_cases g2:f.m.to=0
  case neg =>
   rw[a1 g2 (fun r=>r.2.1)];refine Rd ?_;intros;exact⟨(),trivial,av,by exact ae⟩
  by_cases g3:f.m.item=item
  case neg =>
   rw[a1 g3 (fun r=>r.2.2.1)];refine Rd ?_;intros;exact⟨(),trivial,av,by exact ae⟩
  by_cases g4:fF [p] [(f.m.id,0,f.m.n)]
  case neg =>
   rw[a1 g4 (fun r=>r.2.2.2),aG g4];refine Rd ?_;intros;exact⟨(),trivial,av,by exact ae⟩
  rw[aS g4,aS (a7.2 (.inr ⟨g1,g2,g3,g4⟩))];refine Rd ?_;intros;exact⟨(),trivial,av,by exact ae⟩
 rintro _ _;simp only[rlL,aL,bL];by_cases g1:f.m.kind=9
 case neg =>
  refine Rd ?_;intros;refine⟨k+1,⟨ab,a0 (fun q=>g1 q.1)⟩,ab,?_,?_⟩
  ·rw[aV k];exact av
  ·try simp only[rlL,aL]
   exact ae
 by_cases g2:f.m.frm=0
 case neg =>
  refine Rd ?_;intros;refine⟨k+1,⟨ab,a0 (fun q=>g2 q.2.1)⟩,ab,?_,?_⟩
  ·rw[aV k];exact av
  ·try simp only[rlL,aL]
   exact ae
 refine Rd ?_;intros;rw[b4,show((i:Int)+1).toNat - i=1 by omega];refine GPW.ca (tw f.pad f.m.parts.length f.pcap f.m.parts (advA ad c 3 i) 1 _ [p] rfl rfl a8.1 (pO b2) a8.2) ?_;rintro _ _⟨ad2,c2,rfl,rfl⟩;by_cases h4:gL f.m.parts [p]=[]
 ·have h5:((gL f.m.parts [p]).length:Int)=0:=by rw[h4];rfl
  refine Rd ?_;intros;refine⟨k+1,⟨ab,a0 (fun q=>q.2.2 h4)⟩,ab,?_,?_⟩
  ·rw[aV k];exact av
  ·try simp only[rlL,aL]
   exact ae
 ·have h5:0<((gL f.m.parts [p]).length:Int):=by
   have:=List.length_pos_iff.2 h4
   omega
  rw[a5 a6 (c1 ⟨g1,g2,h4⟩)];refine Rd ?_;intros;exact KX.en ⟨rfl,rfl⟩
end
section
open Go.V
def gE(x:Lot)(l:LL):lsum (x::l)=x.2.2+lsum l:=by
 have:=gR [x] l
 rw[gq] at this;exact this
def ir:lsum ([]:LL)=0:=rfl
def ov(x y:Lot):Int:=if x.1=y.1 then max 0 (min (x.2.1+x.2.2) (y.2.1+y.2.2) - max x.2.1 y.2.1) else 0
def qV(x y:Lot):ov x y=ov y x:=by
 unfold ov;by_cases h:x.1=y.1
 ·rw[if_pos h,if_pos h.symm];omega
 ·rw[if_neg h,if_neg (fun q=>h q.symm)]
def DH(x y:Lot):0≤ov x y:=by
 unfold ov;split<;>omega
def qU{x y:Lot}(hx:LotOk x)(hy:LotOk y):ov x y=0↔apart x y:=by
 unfold LotOk at hx hy;unfold ov apart;split<;>omega
def OV:LL→Lot→Int
 | [],_=>0
 | x::l,y=>ov x y+OV l y
def wm:∀(l:LL) (y:Lot),0≤OV l y
 | [],_=>bg _
 | x::l,y=>by
  have:=wm l y
  have:=DH x y
  show 0≤ov x y+OV l y;omega
def gF:∀(a b:LL) (y:Lot),OV (a++b) y=OV a y+OV b y
 | [],b,y=>by show OV b y=0+OV b y;omega
 | x::a,b,y=>by
  have:=gF a b y
  show ov x y+OV (a++b) y=ov x y+OV a y+OV b y;omega
def iX(x y:Lot):OV [x] y=ov x y:=by show ov x y+0=ov x y;omega
def uN:∀{l:LL} {y:Lot},OV l y=0→∀x∈l,ov x y=0
 | x::l,y,h,z,hz=>by
  have h1:=wm l y;have h2:=DH x y;have h3:ov x y+OV l y=0:=h;rcases List.mem_cons.1 hz with rfl|hz
  ·omega
  ·exact uN ab z hz
def OO(l:LL):LL→Int
 | []=>0
 | x::s=>OV l x+OO l s
def uO(y:Lot)(l:LL):∀s,OO (y::l) s=OO [y] s+OO l s
 | []=>rfl
 | x::s=>by
  have:=uO y l s
  have e:=iX y x;show(ov y x+OV l x)+OO (y::l) s=(OV [y] x+OO [y] s)+(OV l x+OO l s);omega
def yS:∀s,OO [] s=0
 | []=>rfl
 | x::s=>by
  have:=yS s
  show 0+OO [] s=0;omega
def Gr(y:Lot):∀s,OO [y] s=OV s y
 | []=>rfl
 | x::s=>by
  have:=Gr y s
  have e:=iX y x;have c:=qV x y;show OV [y] x+OO [y] s=ov x y+OV s y;omega
def Ca:∀l s,OO l s=OO s l
 | [],s=>yS s
 | y::l,s=>by
  rw[uO,Gr,Ca l s];rfl
def Gz{x y:Lot}(hx:LotOk x)(hy:LotOk y):lsum (subS x y)=y.2.2 - ov y x:=by
 unfold LotOk at hx hy;unfold subS ov;by_cases hc:y.1≠x.1∨x.2.1+x.2.2≤y.2.1∨y.2.1+y.2.2≤x.2.1
 ·rw[if_pos hc,gq];by_cases hf:y.1=x.1
  ·rw[if_pos hf];omega
  ·rw[if_neg hf];omega
 ·have hf:y.1=x.1:=ab;rw[if_neg hc,if_pos hf,gR];by_cases g1:y.2.1<x.2.1
  ·rw[if_pos g1,gq];by_cases g2:x.2.1+x.2.2<y.2.1+y.2.2
   ·rw[if_pos g2,gq];dsimp only;omega
   ·rw[if_neg g2,ir];dsimp only;omega
  ·rw[if_neg g1,ir];by_cases g2:x.2.1+x.2.2<y.2.1+y.2.2
   ·rw[if_pos g2,gq];dsimp only;omega
   ·rw[if_neg g2,ir];omega
def HV{x y t:Lot}(hx:LotOk x)(hy:LotOk y)(ht:LotOk t)(h:apart x t):OV (subS x y) t=ov y t:=by
 unfold LotOk at hx hy ht;unfold apart at h;unfold subS;split
 ·exact iX y t
 ·rename_i hn;rw[gF];by_cases hf:x.1=t.1
  ·have a0:y.1=t.1:=ab;split<;>split<;>simp only[iX,OV,ov,if_pos hf,if_pos a0]<;>omega
  ·have a0:¬y.1=t.1:=ab;split<;>split<;>simp only[iX,OV,ov,if_neg hf,if_neg a0]<;>omega
def rS{x:Lot}(hx:LotOk x):∀{l:LL},(∀y∈l,LotOk y)→lsum (subL l x)=lsum l - OV l x
 | [],_=>rfl
 | y::l,h=>by
  have e:subL (y::l) x=subS x y++subL l x:=bB;have ih:=rS hx (l:=l) (fun z hz=>h z (au _ hz));have h1:=Gz hx (h y aq);rw[e,gR,gE,ih,h1];show _=y.2.2+lsum l - (ov y x+OV l x);omega
def Bt{x t:Lot}(hx:LotOk x)(ht:LotOk t)(ha:apart x t):∀{l:LL},(∀y∈l,LotOk y)→OV (subL l x) t=OV l t
 | [],_=>rfl
 | y::l,h=>by
  have e:subL (y::l) x=subS x y++subL l x:=bB;have ih:=Bt hx ht ha (l:=l) (fun z hz=>h z (au _ hz));rw[e,gF,ih,HV hx (h y aq) ht ha];rfl
def uF:∀{set l:LL},(∀x∈set,LotOk x)→(∀y∈l,LotOk y)→Apart set→lsum (set.foldl subL l)=lsum l - OO l set
 | [],l,_,_,_=>by show lsum l=lsum l - 0;omega
 | x::set,l,hs,hl,ha=>by
  obtain⟨a1,a2⟩:=List.pairwise_cons.1 ha;have hx:=hs x aq;have a0:∀z∈set,LotOk z:=fun z hz=>hs z (au _ hz);have ih:=uF (set:=set) (l:=subL l x) a0 (nY hx hl) a2
  have a3:∀{s:LL},(∀z∈s,LotOk z)→(∀z∈s,apart x z)→OO (subL l x) s=OO l s:=fun {s}=>by
   induction s with
   | nil=>intro _ _;rfl
   | cons z s ih2 =>
    intro g1 g2;have h1:=Bt hx (g1 z aq) (g2 z aq) hl;have h2:=ih2 (fun q hq=>g1 q (au _ hq)) (fun q hq=>g2 q (au _ hq));show OV (subL l x) z+OO (subL l x) s=OV l z+OO l s;omega
  have h3:=rS hx hl;have h4:=a3 a0 a1;show lsum (set.foldl subL (subL l x))=lsum l - (OV l x+OO l set);omega
def vg:∀(r out:LL),lsum (r.foldl aY out)=lsum out+lsum r
 | [],out=>by show lsum out=lsum out+0;omega
 | x::r,out=>by
  have:=vg r (aY out x)
  rw[mK] at this;rw[gE];show lsum (r.foldl aY (aY out x))=_;omega
def ww{set:LL}(hs:∀x∈set,LotOk x)(ha:Apart set):∀{s out:LL},(∀y∈s,LotOk y)→lsum (s.foldl (fun out y=>(eM set y).foldl aY out) out)=lsum out+lsum s - OO s set
 | [],out,_=>by rw[yS];show lsum out=lsum out+0 - 0;omega
 | y::s,out,h=>by
  have hy:=h y aq;have ih:=ww hs ha (s:=s) (out:=(eM set y).foldl aY out) (fun z hz=>h z (au _ hz));have h1:lsum (eM set y)=lsum [y] - OO [y] set:=uF hs (fun z hz=>by rw[List.mem_singleton.1 hz];exact hy) ha;rw[gq] at h1;rw[vg,h1] at ih;rw[gE,uO];show lsum (s.foldl _ ((eM set y).foldl aY out))=_;omega
def nl{s set:LL}(h:∀y∈s,LotOk y)(hs:∀x∈set,LotOk x)(ha:Apart set):lsum (dP s set)=lsum s - OO s set:=by
 have:=ww hs ha (s:=s) (out:=[]) h
 rw[ir] at this;unfold dP;omega
def sl(x y:Lot):Prop:=x.1<y.1∨(x.1=y.1∧x.2.1+x.2.2<y.2.1)
structure MrgI (l:Lot) (z:LL×LL×Int×Int) (r:LL):Prop where
 lo:0≤z.2.2.1∧z.2.2.1≤l.2.1
 hi:l.2.1+l.2.2≤z.2.2.2
 hiC:z.2.2.2=l.2.1+l.2.2∨∀x∈r,x.1=l.1→z.2.2.2<x.2.1
 loC:z.2.2.1=l.2.1∨∀x∈r,x.1=l.1→l.2.1<x.2.1
 s1:(z.1++r).Pairwise sl
 s2:(z.2.1++r).Pairwise sl
 s3:∀y∈z.1,y.1<l.1∨(y.1=l.1∧y.2.1+y.2.2<z.2.2.1)
 s4:∀y∈z.2.1,(l.1<y.1∨(y.1=l.1∧z.2.2.2<y.2.1))∧1≤y.2.2
def zsum(z:LL×LL×Int×Int):Int:=lsum z.1+lsum z.2.1+(z.2.2.2 - z.2.2.1)
def zov(f:Int)(z:LL×LL×Int×Int)(t:Lot):Int:=OV z.1 t+OV z.2.1 t+ov (f,z.2.2.1,z.2.2.2 - z.2.2.1) t
def GV{l:Lot}{z:LL×LL×Int×Int}{x:Lot}{r:LL}(hl:LotOk l)(hx:LotOk x)(h:MrgI l z (x::r)):MrgI l (insS l.1 z x) r∧zsum (insS l.1 z x)=zsum z+x.2.2 - ov x l∧(ov x l=0→∀t,LotOk t→zov l.1 (insS l.1 z x) t=zov l.1 z t+ov x t):=by
 obtain⟨⟨b0,b1⟩,b2,b3,b4,s1,s2,s3,s4⟩:=h;have a2:x∈x::r:=aq;have hr:∀{y},y∈r→y∈x::r:=fun hy=>au _ hy;have a4:∀y∈r,sl x y:=(List.pairwise_cons.1 (List.pairwise_append.1 s1).2.1).1;have a6:∀y∈z.1,sl y x:=fun y hy=>(List.pairwise_append.1 s1).2.2 y hy x a2;have a8:∀y∈z.2.1,sl y x:=fun y hy=>(List.pairwise_append.1 s2).2.2 y hy x a2;have a5:=hl;have a7:=hx;unfold LotOk at a5 a7;have a1:(z.1++r).Pairwise sl:=s1.sublist (List.Sublist.append_left (List.sublist_cons_self x r) _);have a0:(z.2.1++r).Pairwise sl:=s2.sublist (List.Sublist.append_left (List.sublist_cons_self x r) _);unfold insS;by_cases c1:x.1<l.1∨(x.1=l.1∧x.2.1+x.2.2<z.2.2.1)
 ·rw[if_pos c1];have e0:ov x l=0:=by unfold ov;split<;>omega
  refine⟨⟨⟨b0,b1⟩,b2,b3.imp id (fun q y hy=>q y (hr hy)),b4.imp id (fun q y hy=>q y (hr hy)),?_,a0,?_,s4⟩,?_,fun _ t _=>?_⟩
  ·rw[aH];exact s1
  ·intro y hy;rcases List.mem_append.1 hy with hy|hy
   ·exact s3 y hy
   ·rw[List.mem_singleton.1 hy];exact c1
  ·rw[e0];unfold zsum;dsimp only;rw[gR,gq];omega
  ·unfold zov;dsimp only;rw[gF,iX];omega
 rw[if_neg c1];by_cases c2:l.1<x.1∨z.2.2.2<x.2.1
 ·rw[if_pos c2];have e0:ov x l=0:=by unfold ov;split<;>omega
  refine⟨⟨⟨b0,b1⟩,b2,b3.imp id (fun q y hy=>q y (hr hy)),b4.imp id (fun q y hy=>q y (hr hy)),a1,?_,s3,?_⟩,?_,fun _ t _=>?_⟩
  ·rw[aH];exact s2
  ·intro y hy;rcases List.mem_append.1 hy with hy|hy
   ·exact s4 y hy
   ·rw[List.mem_singleton.1 hy];dsimp only;omega
  ·rw[e0];unfold zsum;dsimp only;rw[gR,gq];omega
  ·unfold zov;dsimp only;rw[gF,iX];omega
 rw[if_neg c2];have hf:x.1=l.1:=ab
 have b5:z.2.2.2=l.2.1+l.2.2:=by
  rcases b3 with q|q
  ·exact q
  ·have:=q x a2 hf
   omega
 have a9:z.2.2.1=l.2.1∨l.2.1<x.2.1:=b4.imp id (fun q=>q x a2 hf);refine⟨⟨⟨by dsimp only;omega,by dsimp only;omega⟩,by dsimp only;omega,?_,?_,a1,a0,?_,?_⟩,?_,fun e0 t ht=>?_⟩
 ·dsimp only;by_cases q:x.2.1+x.2.2≤l.2.1+l.2.2
  ·left;omega
  ·right;intro y hy a3;have:=a4 y hy
   unfold sl at this;omega
 ·dsimp only;by_cases q:z.2.2.1≤x.2.1
  ·rcases b4 with g|g
   ·left;omega
   ·right;intro y hy a3;exact g y (hr hy) a3
  ·right;intro y hy a3;have:=a4 y hy
   unfold sl at this;omega
 ·intro y hy;have g1:=s3 y hy;have g2:=a6 y hy;unfold sl at g2;dsimp only;omega
 ·intro y hy;exfalso;have g1:=s4 y hy;have g2:=a8 y hy;unfold sl at g2;omega
 ·unfold zsum ov;rw[if_pos hf];dsimp only;omega
 ·unfold ov at e0;rw[if_pos hf] at e0;unfold zov;dsimp only
  have key:ov (l.1,min z.2.2.1 x.2.1,max z.2.2.2 (x.2.1+x.2.2) - min z.2.2.1 x.2.1) t=ov (l.1,z.2.2.1,z.2.2.2 - z.2.2.1) t+ov x t:=by
   unfold LotOk at ht;unfold ov;dsimp only;by_cases g:l.1=t.1
   ·rw[if_pos g,if_pos g,if_pos (hf.trans g)];omega
   ·rw[if_neg g,if_neg g,if_neg (fun q=>g (hf▸q))];omega
  omega
def ut{l:Lot}(hl:LotOk l):∀{r:LL} {z:LL×LL×Int×Int},(∀x∈r,LotOk x)→MrgI l z r→MrgI l (r.foldl (insS l.1) z) []∧zsum (r.foldl (insS l.1) z)=zsum z+lsum r - OV r l∧(OV r l=0→∀t,LotOk t→zov l.1 (r.foldl (insS l.1) z) t=zov l.1 z t+OV r t)
 | [],z,_,h=>⟨h,by show zsum z=zsum z+0 - 0;omega,fun _ t _=>by show zov l.1 z t=zov l.1 z t+0;omega⟩
 | x::r,z,hr,h=>by
  obtain⟨h1,h2,h3⟩:=GV hl (hr x aq) h;obtain⟨i1,i2,i3⟩:=ut hl (r:=r) (z:=insS l.1 z x) (fun y hy=>hr y (au _ hy)) h1;have e:OV (x::r) l=ov x l+OV r l:=rfl;have n1:=DH x l;have n2:=wm r l;refine⟨i1,?_,fun q t ht=>?_⟩
  ·show zsum (r.foldl (insS l.1) (insS l.1 z x))=_;rw[gE];omega
  ·have g1:=h3 ab t ht;have g2:=i3 ab t ht;show zov l.1 (r.foldl (insS l.1) (insS l.1 z x)) t=zov l.1 z t+(ov x t+OV r t);omega
def He{l:Lot}{s:LL}(hl:LotOk l)(hs:∀x∈s,LotOk x)(hp:s.Pairwise sl):(insL s l).Pairwise sl∧lsum (insL s l)=lsum s+l.2.2 - OV s l∧(OV s l=0→∀t,LotOk t→OV (insL s l) t=OV s t+ov l t):=by
 have a0:=hl;unfold LotOk at a0;obtain⟨⟨_,_,_,_,_,_,s3,s4⟩,h2,h3⟩:=ut hl (r:=s) (z:=([],[],l.2.1,l.2.1+l.2.2)) hs ⟨⟨a0.2.1,bg _⟩,bg _,.inl rfl,.inl rfl,hp,hp,(fun _ h=>by cases h),(fun _ h=>by cases h)⟩;have hm:=ut hl (r:=s) (z:=([],[],l.2.1,l.2.1+l.2.2)) hs ⟨⟨a0.2.1,bg _⟩,bg _,.inl rfl,.inl rfl,hp,hp,(fun _ h=>by cases h),(fun _ h=>by cases h)⟩;have p1:=hm.1.s1;have p2:=hm.1.s2;have q1:=hm.1.lo;have q2:=hm.1.hi;rw[aQ] at p1 p2;have e:s.foldl (insS l.1) ([],[],l.2.1,l.2.1+l.2.2)=insG s l:=rfl;rw[e] at s3 s4 h2 h3 p1 p2 q1 q2;clear hm;have z0:zsum ([],[],l.2.1,l.2.1+l.2.2)=l.2.2:=by unfold zsum;dsimp only;rw[ir];omega
 unfold insL;generalize insG s l=z at *;refine⟨?_,?_,fun q t ht=>?_⟩
 ·refine List.pairwise_append.2 ⟨List.pairwise_append.2 ⟨p1,bE _ _,fun y hy w hw=>?_⟩,p2,fun y hy w hw=>?_⟩
  ·rw[List.mem_singleton.1 hw];have:=s3 y hy
   unfold sl;dsimp only;omega
  ·have g2:=s4 w hw;rcases List.mem_append.1 hy with hy|hy
   ·have g1:=s3 y hy;unfold sl;omega
   ·rw[List.mem_singleton.1 hy];unfold sl;dsimp only;omega
 ·rw[gR,gR,gq];rw[z0] at h2;unfold zsum at h2;dsimp only;omega
 ·have g:=h3 q t ht
  have e0:zov l.1 ([],[],l.2.1,l.2.1+l.2.2) t=ov l t:=by
   unfold zov;dsimp only;have:l.2.1+l.2.2 - l.2.1=l.2.2:=ab;rw[this];show 0+0+ov (l.1,l.2.1,l.2.2) t=ov l t;rw[show(l.1,l.2.1,l.2.2)=l from rfl];omega
  rw[e0] at g;unfold zov at g;rw[gF,gF,iX];omega
def lE{ps:LL}(h:∀x∈ps,LotOk x):∀i,i≤ps.length→(setL (ps.take i)).Pairwise sl∧lsum (setL (ps.take i))≤lsum (ps.take i)∧(lsum (setL (ps.take i))=lsum (ps.take i)→Apart (ps.take i)∧∀t,LotOk t→OV (setL (ps.take i)) t=OV (ps.take i) t)∧(Apart (ps.take i)→lsum (setL (ps.take i))=lsum (ps.take i))
 | 0,_=>⟨List.Pairwise.nil,bg _,fun _=>⟨List.Pairwise.nil,fun _ _=>rfl⟩,fun _=>rfl⟩
 | i+1,hi=>by
  obtain⟨h1,h2,h3,h4⟩:=lE h i ab;have a0:i<ps.length:=ab;have hx:=h _ (aI a0);have a4:=(np h i ab).2;have e:setL (ps.take (i+1))=insL (setL (ps.take i)) ps[i]!:=ix insL [] a0;have et:ps.take (i+1)=ps.take i++[ps[i]!]:=by rw[aD a0,getElem!_of a0]
  have a5:lsum (ps.take (i+1))=lsum (ps.take i)+ps[i]!.2.2:=eJ ps a0;have a3:∀x∈ps.take i,LotOk x:=fun x hq=>h x (dv hq);obtain⟨g1,g2,g3⟩:=He hx a4 h1;have nn:=wm (setL (ps.take i)) ps[i]!;rw[e,a5];refine⟨g1,ab,fun q=>?_,fun q=>?_⟩
  ·obtain⟨a1,a2⟩:=h3 ab;have z:OV (setL (ps.take i)) ps[i]! = 0:=ab;rw[et];refine⟨List.pairwise_append.2 ⟨a1,bE _ _,fun y hy w hw=>?_⟩,fun t ht=>?_⟩
   ·rw[List.mem_singleton.1 hw];rw[a2 _ hx] at z;exact(qU (a3 y hy) hx).1 (uN z y hy)
   ·rw[g3 z t ht,a2 t ht,gF,iX]
  ·rw[et] at q;obtain⟨q1,_,q3⟩:=List.pairwise_append.1 q;have h5:=h4 q1;have h6:=(h3 h5).2 _ hx
   have z:∀{l:LL},(∀y∈l,LotOk y)→(∀y∈l,apart y ps[i]!)→OV l ps[i]! = 0:=fun {l}=>by
    induction l with
    | nil=>intro _ _;rfl
    | cons y l ih =>
     intro w1 w2;have e1:=(qU (w1 y aq) hx).2 (w2 y aq);have e2:=ih (fun q hq=>w1 q (au _ hq)) (fun q hq=>w2 q (au _ hq));show ov y ps[i]! + OV l ps[i]! = 0;omega
   have h7:=z a3 (fun y hy=>q3 y hy _ (cW _));omega
def mU{ps:LL}(h:∀x∈ps,LotOk x):lsum (setL ps)=lsum ps↔Apart ps:=by
 obtain⟨_,_,h3,h4⟩:=lE h ps.length (aB _);rw[bu] at h3 h4;exact⟨fun q=>(h3 q).1,h4⟩
def wL{s:LL}(h:s.Pairwise sl):Apart s:=h.imp (fun {a b} q=>by unfold sl at q;unfold apart;omega)
def wn{a b:LL}:∀{s:LL},(∀t∈s,OV a t=OV b t)→OO a s=OO b s
 | [],_=>rfl
 | x::s,h=>by
  have h1:=h x aq;have h2:=wn (s:=s) (fun t ht=>h t (au _ ht));show OV a x+OO a s=OV b x+OO b s;omega
def Cd{ps own:LL}(hw:fF ps own)(ha:Apart own)(hd:lsum (setL ps)=lsum ps):lsum (dP own ps)=lsum own - lsum ps:=by
 obtain⟨⟨h1,_⟩,⟨h2,_⟩,h3⟩:=hw;have hs:=lD h1;have e1:lsum (gr ps own)=lsum (setL ps) - OO (setL ps) own:=nl hs.2 h2 ha;rw[h3,ir] at e1;have a0:=(mU h1).1 hd;have e2:=nl h2 h1 a0;obtain⟨_,_,g3,_⟩:=lE h1 ps.length (aB _);rw[bu] at g3;have e3:OO (setL ps) own=OO ps own:=wn (fun t ht=>(g3 hd).2 t (h2 t ht));rw[Ca own ps] at e2;omega
