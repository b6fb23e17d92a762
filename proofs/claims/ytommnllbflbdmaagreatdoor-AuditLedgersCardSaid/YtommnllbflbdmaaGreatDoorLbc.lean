/- Lemmas. -/
import Derived.Test.YtommnllbflbdmaaGreatDoorLbb
set_option linter.all false
set_option maxHeartbeats 4000000
namespace Go.Proofs.YtommnllbflbdmaaGreatDoor
section
open Go.V
attribute [local irreducible] G GO GP GPW GPK Ev Ef EfR Ent CB GB V.Enters
def FlOk(fl:List FlV):Prop:=fl.length≤9000000∧∀f∈fl,(∀x∈f.m.parts,LotOk x)∧f.m.parts.length≤2047
def lc(fl:List FlM)(p:Lot):Prop:=∃f∈fl,f.kind=5∧ge f.parts [p]≠[]
instance (fl:List FlM)(p:Lot):Decidable (lc fl p):=by unfold lc;infer_instance
def arr1(sh:Int)(fl:List FlM)(p:Lot):Int:=if p.1 / 4294967296=sh∨11<p.1 / 4294967296 then 1 else if lc fl p then 8 else 0
def arrG(sh:Int)(fl:List FlM):LL→Int
 | []=>0
 | p::ps=>if arr1 sh fl p=0 then arrG sh fl ps else arr1 sh fl p
def jW(fl:List FlM)(item:Int)(p:Lot):Prop:=(¬ ∃f∈fl,f.kind=9∧f.frm=0∧ge f.parts [p]≠[])∧∃f∈fl,f.kind≠6∧f.to=0∧f.item=item∧fT [p] [(f.id,0,f.n)]
instance (fl:List FlM)(item:Int)(p:Lot):Decidable (jW fl item p):=by unfold jW;infer_instance
def revG(fl:List FlM)(item:Int)(ps:LL):Int:=if ∀p∈ps,jW fl item p then 0 else 10
theorem oB{p:Lot}(h:LotOk p):eZ [p]:=⟨fun x hx=>by rw[List.mem_singleton.1 hx];exact h,by show 1≤4096;omega⟩
theorem zI{fl:List FlV}(h:FlOk fl){p:Lot}(hp:LotOk p){f:FlV}(hf:f∈fl):eZ f.m.parts∧(fF f.m.parts [p]).length≤4096:=by
 obtain⟨h1,h2⟩:=h.2 f hf;refine⟨⟨h1,ac⟩,?_⟩;have:=(ki h1 (oB hp).1).2
 rw[bC] at this;omega
theorem ub{fl:List FlV}{k:Nat}(h:k<fl.length){L:LH}:Ent (allP flP fl::L) (isl an 3 fl[k]!.pad fl[k]!.m.parts::isl (encZ .i64) 1 fl[k]!.mad fl[k]!.m.made::allP flP fl::L):=(Ent.d9 (f:=flP) (aI h)).trans Ent.andE
theorem ry{xs:LL}{i:Nat}(h:i<xs.length):(xs.drop i).take 1=[xs[i]!]:=by
 rw[fG h];rfl
abbrev xW:List Stp:=[.ev 0,.ev 1,.ev 2,.ev 3,.ev 4,.ev 5,.ev 6,.ev 7,.ev 8,.ev 9,.ev 10,.ev 11,.ev 12,.ev 13,.ev 14,.ev 15,.ev 16,.ev 17,.ev 18,.ev 19,.ev 20,.ev 21,.ev 22,.ef 23,.ev 24,.ev 25,.ev 26]
theorem dZ{φ ψ:Prop}(k:ψ)(h:Hid ψ→φ:=by intro k;(with_reducible apply G.d8);first|refine G.d7 (N:=66) (id:=10) xW mixed ap (Hid.out k)):φ:=h ⟨k⟩
theorem vI{L:LH}(b:Nat)(sh:Int)(x:RLX)(hfl:FlOk x.flows)(ad:OA)(n c:Nat)(ps:LL)[hr:Rds L ad Lot an 3 ps](hn:n=ps.length)(hc:ps.length≤c)(hv:∀p∈ps,LotOk p)(hb:∀p∈ps,p.1≤9223372036854775807)(hl:ps.length≤4096) :
  Tri ah 227 #[au b,.slice ad n c] (rlL b sh x L) (fun v L'=>v=ab (arrG sh (x.flows.map FlV.m) ps)∧L' = rlL b sh x L):=by
 subst hn;have hfl0:=hfl.1;refine Tri.body (args:=[au b,.slice ad ps.length c]) 66 Ij Tryz.func227 rfl rfl rfl (by simp) ?_;simp only[rlL,aK];repeat first|refine aa ?_|intro _|refine dZ ?_
 refine G.loop (α:=Nat) (fun i=>i≤ps.length∧arrG sh (x.flows.map FlV.m) ps=arrG sh (x.flows.map FlV.m) (ps.drop i)) (fun i=>[(0,au b),(1,.slice ad ps.length c),(5,ab (i:Int))]) (fun _=>rlL b sh x L) (fun i=>ps.length - i) 0 ⟨ao _,rfl⟩ aj (by simp only[rlL,aK];exact ag) ?_;rintro i ⟨hi,he⟩;simp only[rlL,aK];by_cases hlt:i<ps.length
 case neg =>
  have e0:ps.drop i=[]:=bP ac;rw[e0] at he;repeat first|refine aa ?_|intro _|refine dZ ?_
  exact KX.d7 ai ag ⟨by rw[he];rfl,rfl⟩
 have hii:(i:Int).toNat=i:=aA i;have hlt' : (i:Int).toNat<ps.length:=ac;have hpo:=hv _ (aI hlt');have hp0:=hpo.1;have hp1:=hb _ (aI hlt');have hdr:ps.drop i=ps[(i:Int).toNat]!::ps.drop (i+1):=by rw[hii];exact fG hlt
 rw[hdr] at he
 haveI hrd:Rds L (advA ad c 3 i) Lot an 3 [ps[(i:Int).toNat]!]:=by
  have h:=Rds.take (Rds.drop hr hc i) 1;rwa [ry hlt,←hii,hii] at h
 have hstep:arrG sh (x.flows.map FlV.m) (ps[(i:Int).toNat]!::ps.drop (i+1))=if arr1 sh (x.flows.map FlV.m) ps[(i:Int).toNat]! = 0 then arrG sh (x.flows.map FlV.m) (ps.drop (i+1)) else arr1 sh (x.flows.map FlV.m) ps[(i:Int).toNat]!:=rfl;rw[hstep] at he;repeat first|refine aa ?_|intro _|refine dZ ?_
 generalize hpg:ps[(i:Int).toNat]! = p at *;by_cases h1:p.1 / 4294967296=sh
 ·have e1:arr1 sh (x.flows.map FlV.m) p=1:=if_pos (.inl h1);rw[e1,if_neg ae] at he;repeat first|refine aa ?_|intro _|refine dZ ?_
  exact KX.d7 ai ag ⟨by rw[he];rfl,rfl⟩
 by_cases h2:11<p.1 / 4294967296
 ·have e1:arr1 sh (x.flows.map FlV.m) p=1:=if_pos (.inr h2);rw[e1,if_neg ae] at he;repeat first|refine aa ?_|intro _|refine dZ ?_
  exact KX.d7 ai ag ⟨by rw[he];rfl,rfl⟩
 have e1:arr1 sh (x.flows.map FlV.m) p=if lc (x.flows.map FlV.m) p then 8 else 0:=if_neg (fun q=>q.elim h1 h2);rw[e1] at he;repeat first|refine aa ?_|intro _|refine dZ ?_
 refine G.loop (α:=Nat) (fun k=>k≤x.flows.length∧∀j,j<k→¬(x.flows[j]!.m.kind=5∧ge x.flows[j]!.m.parts [p]≠[])) (fun k=>[(0,au b),(1,.slice ad ps.length c),(5,ab (i:Int)),(7,ab (k:Int))]) (fun _=>rlL b sh x L) (fun k=>x.flows.length - k) 0 ⟨ao _,fun j hj=>absurd hj (cd j)⟩ aj (by simp only[rlL,aK];exact ag) ?_;rintro k ⟨hk,hnone⟩;simp only[rlL,aK];by_cases hlk:k<x.flows.length
 case neg =>
  have hno:¬lc (x.flows.map FlV.m) p:=by
   rintro⟨f,hf,h3,h4⟩;obtain⟨u,hu,rfl⟩:=List.mem_map.1 hf;obtain⟨j,hj,rfl⟩:=List.mem_iff_getElem.1 hu;refine hnone j ac ?_;rw[getElem!_of hj];exact⟨h3,h4⟩
  rw[if_neg hno,if_pos rfl] at he;repeat first|refine aa ?_|intro _|refine dZ ?_
  refine⟨i+1,⟨ac,he⟩,ac,?_,?_⟩
  ·rw[aP i];exact aj
  ·try simp only[rlL,aK]
   exact ag
 have hkk:(k:Int).toNat=k:=aA k;have hlk' : (k:Int).toNat<x.flows.length:=ac;have hfm:=zI hfl hpo (aI hlk')
 have hnext:¬(x.flows[(k:Int).toNat]!.m.kind=5∧ge x.flows[(k:Int).toNat]!.m.parts [p]≠[])→∀j,j<k+1→¬(x.flows[j]!.m.kind=5∧ge x.flows[j]!.m.parts [p]≠[]):=fun h j hj=>by
  rcases cg j k with h3|h3
  ·exact hnone j h3
  ·obtain rfl:j=k:=ac;rw[hkk] at h;exact h
 by_cases h3:x.flows[(k:Int).toNat]!.m.kind=5
 case neg =>
  repeat first|refine aa ?_|intro _|refine dZ ?_
  refine⟨k+1,⟨ac,hnext (fun q=>h3 q.1)⟩,ac,?_,?_⟩
  ·rw[aP k];exact aj
  ·try simp only[rlL,aK]
   exact ag
 refine G.ent (L':=isl an 3 x.flows[(k:Int).toNat]!.pad x.flows[(k:Int).toNat]!.m.parts::rlL b sh x L) ((Ent.at (A:=allP flP x.flows) (ub hlk')).trans (by simp only[rlL,aK];exact ag)) ?_;simp only[rlL,aK];repeat first|refine aa ?_|intro _|refine dZ ?_
 rw[hii,show((i:Int)+1).toNat - i=1 by omega];refine GPW.ef (Ef.d7 (rT x.flows[(k:Int).toNat]!.pad x.flows[(k:Int).toNat]!.m.parts.length x.flows[(k:Int).toNat]!.pcap x.flows[(k:Int).toNat]!.m.parts (advA ad c 3 i) 1 _ [p] rfl rfl hfm.1 (oB hpo) hfm.2) rfl) ae ?_;rintro _ _⟨ad2,c2,rfl,rfl⟩;by_cases h4:ge x.flows[(k:Int).toNat]!.m.parts [p]=[]
 ·have h5:((ge x.flows[(k:Int).toNat]!.m.parts [p]).length:Int)=0:=by rw[h4];rfl
  repeat first|refine aa ?_|intro _|refine dZ ?_
  refine⟨k+1,⟨ac,hnext (fun q=>q.2 h4)⟩,ac,?_,?_⟩
  ·rw[aP k];exact aj
  ·try simp only[rlL,aK]
   exact ag
 ·have h5:0<((ge x.flows[(k:Int).toNat]!.m.parts [p]).length:Int):=by
   have:=List.length_pos_iff.2 h4
   omega
  have hyes:lc (x.flows.map FlV.m) p:=⟨x.flows[(k:Int).toNat]!.m,alStd0List_mem_map_of_mem (aI hlk'),h3,h4⟩;rw[if_pos hyes,if_neg ae] at he;repeat first|refine aa ?_|intro _|refine dZ ?_
  exact KX.d7 ai ag ⟨by rw[he];rfl,rfl⟩
def gotP(f:FlM)(item:Int)(p:Lot):Prop:=f.kind≠6∧f.to=0∧f.item=item∧fT [p] [(f.id,0,f.n)]
def gotN(fl:List FlV)(item:Int)(p:Lot)(k:Nat):Prop:=∃j,j<k∧gotP fl[j]!.m item p
noncomputable instance (fl:List FlV) (item:Int) (p:Lot) (k:Nat):Decidable (gotN fl item p k):=Classical.propDecidable _
theorem Dl(fl:List FlV)(item:Int)(p:Lot):¬gotN fl item p 0:=fun⟨_,hj,_⟩=>absurd hj (cd _)
theorem Dm{fl:List FlV}{item:Int}{p:Lot}{k:Nat}:gotN fl item p (k+1)↔gotN fl item p k∨gotP fl[k]!.m item p:=by
 constructor
 ·rintro⟨j,hj,h⟩;rcases cg j k with h3|h3
  ·exact .inl ⟨j,h3,h⟩
  ·obtain rfl:j=k:=ac;exact .inr h
 ·rintro (⟨j,hj,h⟩|h)
  ·exact⟨j,ac,h⟩
  ·exact⟨k,ac,h⟩
abbrev xV:List Stp:=[.ev 0,.ev 1,.ev 2,.ev 3,.ev 4,.ev 5,.ev 6,.ev 7,.ev 8,.ev 9,.ev 10,.ev 11,.ev 12,.ev 13,.ev 14,.ev 15,.ev 16,.ef 17,.ev 18,.ev 19,.ev 20]
theorem cP{φ ψ:Prop}(k:ψ)(h:Hid ψ→φ:=by intro k;(with_reducible apply G.d8);first|refine G.d7 (N:=89) (id:=13) xV mixed ap (Hid.out k)):φ:=h ⟨k⟩
theorem vz{L:LH}(b:Nat)(sh:Int)(x:RLX)(hfl:FlOk x.flows)(m:MvV)[hr:Rds L m.pad Lot an 3 m.m.parts](hc:m.m.parts.length≤m.pcap)(hv:∀p∈m.m.parts,LotOk p)(hl:m.m.parts.length≤4096) :
  Tri ah 228 #[au b,.agg (aM m).toArray] (rlL b sh x L) (fun v L'=>v=ab (revG (x.flows.map FlV.m) m.m.item m.m.parts)∧L' = rlL b sh x L):=by
 obtain⟨⟨frm,to,item,n,ps⟩,ad,c⟩:=m;dsimp only at hr hc hv hl;have hfl0:=hfl.1;have hbad:∀{p:Lot},p∈ps→¬jW (x.flows.map FlV.m) item p→revG (x.flows.map FlV.m) item ps=10:=fun hp h=>if_neg (fun q=>h (q _ hp));refine Tri.body (args:=[au b,.agg (aM ⟨⟨frm,to,item,n,ps⟩,ad,c⟩).toArray]) 89 Ii Tryz.func228 rfl rfl rfl (by simp) ?_;simp only[rlL,aK,aM];repeat first|refine aa ?_|intro _|refine cP ?_
 rename_i b3;refine G.loop (α:=Nat) (fun i=>i≤ps.length∧∀j,j<i→jW (x.flows.map FlV.m) item ps[j]!) (fun i=>[(0,au b),(3,au b3),(5,ab (i:Int))]) (fun _=>rlL b sh x (obj b3 tMv [ab frm,ab to,ab item,ab n,.slice ad ps.length c]::L)) (fun i=>ps.length - i) 0 ⟨ao _,fun j hj=>absurd hj (cd j)⟩ aj (by simp only[rlL,aK];exact ag) ?_;rintro i ⟨hi,hdone⟩;simp only[rlL,aK];by_cases hlt:i<ps.length
 case neg =>
  have e0:revG (x.flows.map FlV.m) item ps=0:=if_pos (fun p hp=>by
   obtain⟨j,hj,rfl⟩:=List.mem_iff_getElem.1 hp;have:=hdone j ac
   rwa [getElem!_of hj] at this)
  rw[e0];repeat first|refine aa ?_|intro _|refine cP ?_
  exact KX.d7 ai ag ⟨rfl,rfl⟩
 have hii:(i:Int).toNat=i:=aA i;have hpm:=aI hlt;have hpo:=hv _ hpm
 haveI hrd:Rds L (advA ad c 3 i) Lot an 3 [ps[i]!]:=by
  have h:=Rds.take (Rds.drop hr hc i) 1;rwa [ry hlt] at h
 generalize hpg:ps[i]! = p at *;repeat first|refine aa ?_|intro _|refine cP ?_
 refine G.loop (α:=Nat) (fun k=>k≤x.flows.length∧∀j,j<k→¬(x.flows[j]!.m.kind=9∧x.flows[j]!.m.frm=0∧ge x.flows[j]!.m.parts [p]≠[])) (fun k=>[(0,au b),(3,au b3),(5,ab (i:Int)),(6,.bool (dB (gotN x.flows item p k))),(7,ab (k:Int))]) (fun _=>rlL b sh x (obj b3 tMv [ab frm,ab to,ab item,ab n,.slice ad ps.length c]::L)) (fun k=>x.flows.length - k) 0 ⟨ao _,fun j hj=>absurd hj (cd j)⟩ ?_ (by simp only[rlL,aK];exact ag) ?_
 ·rw[aF (Dl _ _ _)];exact aj
 rintro k ⟨hk,hnone⟩;simp only[rlL,aK];by_cases hlk:k<x.flows.length
 case neg =>
  obtain rfl:k=x.flows.length:=ac
  have hno:¬ ∃f∈x.flows.map FlV.m,f.kind=9∧f.frm=0∧ge f.parts [p]≠[]:=by
   rintro⟨f,hf,h3⟩;obtain⟨u,hu,rfl⟩:=List.mem_map.1 hf;obtain⟨j,hj,rfl⟩:=List.mem_iff_getElem.1 hu;refine hnone j hj ?_;rw[getElem!_of hj];exact h3
  have hiff:gotN x.flows item p x.flows.length↔jW (x.flows.map FlV.m) item p:=by
   constructor
   ·rintro⟨j,hj,h3⟩;exact⟨hno,_,alStd0List_mem_map_of_mem (aI hj),h3⟩
   ·rintro⟨_,f,hf,h3⟩;obtain⟨u,hu,rfl⟩:=List.mem_map.1 hf;obtain⟨j,hj,rfl⟩:=List.mem_iff_getElem.1 hu;refine⟨j,hj,?_⟩;rw[getElem!_of hj];exact h3
  by_cases hb:jW (x.flows.map FlV.m) item p
  ·rw[aU (hiff.2 hb)];repeat first|refine aa ?_|intro _|refine cP ?_
   refine⟨i+1,⟨ac,fun j hj=>?_⟩,ac,?_,?_⟩
   ·rcases cg j i with h3|h3
    ·exact hdone j h3
    ·obtain rfl:j=i:=ac;rw[hpg];exact hb
   ·rw[aP i];exact aj
   ·try simp only[rlL,aK]
    exact ag
  ·rw[aF (fun q=>hb (hiff.1 q)),hbad hpm hb];repeat first|refine aa ?_|intro _|refine cP ?_
   exact KX.d7 ai ag ⟨rfl,rfl⟩
 have hkk:(k:Int).toNat=k:=aA k;have hlk' : (k:Int).toNat<x.flows.length:=ac;have hfk:=aI hlk;have hfm:=zI hfl hpo hfk;refine G.ent (L':=isl an 3 x.flows[k]!.pad x.flows[k]!.m.parts::rlL b sh x (obj b3 tMv [ab frm,ab to,ab item,ab n,.slice ad ps.length c]::L)) ((Ent.at (A:=allP flP x.flows) (ub hlk)).trans (by simp only[rlL,aK];exact ag)) ?_;simp only[rlL,aK];repeat first|refine aa ?_|intro _|refine cP ?_
 rw[hkk];have hsu:=Dm (fl:=x.flows) (item:=item) (p:=p) (k:=k)
 have hnext:¬(x.flows[k]!.m.kind=9∧x.flows[k]!.m.frm=0∧ge x.flows[k]!.m.parts [p]≠[])→∀j,j<k+1→¬(x.flows[j]!.m.kind=9∧x.flows[j]!.m.frm=0∧ge x.flows[j]!.m.parts [p]≠[]):=fun h j hj=>by
  rcases cg j k with h3|h3
  ·exact hnone j h3
  ·obtain rfl:j=k:=ac;exact h
 have hbk:x.flows[k]!.m.kind=9∧x.flows[k]!.m.frm=0∧ge x.flows[k]!.m.parts [p]≠[]→¬jW (x.flows.map FlV.m) item p:=fun h q=>q.1 ⟨_,alStd0List_mem_map_of_mem hfk,h⟩;generalize hf:x.flows[k]! = f at *;simp only[aL];repeat first|refine aa ?_|intro _|refine cP ?_
 rename_i b8 b9;rw[hii,show((i:Int)+1).toNat - i=1 by omega];refine GO.ent (L':=osl an 3 tLot (some ⟨b9,0,none⟩) 1 [(f.m.id,0,f.m.n)]::obj b8 bz (aL f)::isl an 3 f.pad f.m.parts::rlL b sh x (obj b3 tMv [ab frm,ab to,ab item,ab n,.slice ad ps.length c]::L)) ?_ ?_
 ·refine Ent.trans (B:=obj b9 tLot (an (f.m.id,0,f.m.n))::obj b8 bz (aL f)::isl an 3 f.pad f.m.parts::rlL b sh x (obj b3 tMv [ab frm,ab to,ab item,ab n,.slice ad ps.length c]::L)) (by simp only[rlL,aK,an,aL];exact ag) ?_;exact Ent.e8 (enc:=an) (sz:=3) (xs:=[(f.m.id,0,f.m.n)]) (by simp) rfl (by intro z hz;rw[List.mem_singleton.1 hz];rfl) (by simp)
 simp only[rlL,aK];refine GO.ef (Ef.d7 (oG (advA ad c 3 i) 1 _ [p] (some ⟨b9,0,none⟩) 1 1 [(f.m.id,0,f.m.n)] rfl rfl ae ae) rfl) ae ?_;rintro _ _⟨rfl,rfl⟩;repeat first|((fail_if_success (with_reducible refine G.e7 11 ?_));(with_reducible apply G.seq))|refine bB ?_|intro _|refine cP ?_
 refine G.d9 (α:=Unit) (fun _=>True) (fun _=>[(0,au b),(3,au b3),(5,ab (i:Int)),(6,.bool (dB (gotN x.flows item p (k+1)))),(7,ab (k:Int)),(8,au b8)]) (fun _=>obj b8 bz (aL f)::isl an 3 f.pad f.m.parts::rlL b sh x (obj b3 tMv [ab frm,ab to,ab item,ab n,.slice ad ps.length c]::L)) ?_ ?_
 ·have hnot:∀{q:Prop},¬q→(gotP f.m item p→q)→dB (gotN x.flows item p k)=dB (gotN x.flows item p (k+1)):=fun h1 h2=>by
   have h3:gotN x.flows item p (k+1)↔gotN x.flows item p k:=⟨fun h=>(hsu.1 h).resolve_right (fun r=>h1 (h2 r)),fun h=>hsu.2 (.inl h)⟩;by_cases h4:gotN x.flows item p k
   ·rw[aU h4,aU (h3.2 h4)]
   ·rw[aF h4,aF (fun r=>h4 (h3.1 r))]
  simp only[aL];by_cases g1:f.m.kind=6
  ·rw[hnot (fun q=>q g1) (fun r=>r.1)];repeat first|refine aa ?_|intro _|refine cP ?_
   exact⟨(),trivial,aj,by exact ag⟩
  by_cases g2:f.m.to=0
  case neg =>
   rw[hnot g2 (fun r=>r.2.1)];repeat first|refine aa ?_|intro _|refine cP ?_
   exact⟨(),trivial,aj,by exact ag⟩
  by_cases g3:f.m.item=item
  case neg =>
   rw[hnot g3 (fun r=>r.2.2.1)];repeat first|refine aa ?_|intro _|refine cP ?_
   exact⟨(),trivial,aj,by exact ag⟩
  by_cases g4:fT [p] [(f.m.id,0,f.m.n)]
  case neg =>
   rw[hnot g4 (fun r=>r.2.2.2),aF g4];repeat first|refine aa ?_|intro _|refine cP ?_
   exact⟨(),trivial,aj,by exact ag⟩
  rw[aU g4,aU (hsu.2 (.inr ⟨g1,g2,g3,g4⟩))];repeat first|refine aa ?_|intro _|refine cP ?_
  exact⟨(),trivial,aj,by exact ag⟩
 rintro _ _;simp only[rlL,aK,aL];by_cases g1:f.m.kind=9
 case neg =>
  repeat first|refine aa ?_|intro _|refine cP ?_
  refine⟨k+1,⟨ac,hnext (fun q=>g1 q.1)⟩,ac,?_,?_⟩
  ·rw[aP k];exact aj
  ·try simp only[rlL,aK]
   exact ag
 by_cases g2:f.m.frm=0
 case neg =>
  repeat first|refine aa ?_|intro _|refine cP ?_
  refine⟨k+1,⟨ac,hnext (fun q=>g2 q.2.1)⟩,ac,?_,?_⟩
  ·rw[aP k];exact aj
  ·try simp only[rlL,aK]
   exact ag
 repeat first|refine aa ?_|intro _|refine cP ?_
 rw[hii,show((i:Int)+1).toNat - i=1 by omega];refine GPW.ef (Ef.d7 (rT f.pad f.m.parts.length f.pcap f.m.parts (advA ad c 3 i) 1 _ [p] rfl rfl hfm.1 (oB hpo) hfm.2) rfl) ae ?_;rintro _ _⟨ad2,c2,rfl,rfl⟩;by_cases h4:ge f.m.parts [p]=[]
 ·have h5:((ge f.m.parts [p]).length:Int)=0:=by rw[h4];rfl
  repeat first|refine aa ?_|intro _|refine cP ?_
  refine⟨k+1,⟨ac,hnext (fun q=>q.2.2 h4)⟩,ac,?_,?_⟩
  ·rw[aP k];exact aj
  ·try simp only[rlL,aK]
   exact ag
 ·have h5:0<((ge f.m.parts [p]).length:Int):=by
   have:=List.length_pos_iff.2 h4
   omega
  rw[hbad hpm (hbk ⟨g1,g2,h4⟩)];repeat first|refine aa ?_|intro _|refine cP ?_
  exact KX.d7 ai ag ⟨rfl,rfl⟩
end
section
open Go.V
theorem gF(x:Lot)(l:LL):lsum (x::l)=x.2.2+lsum l:=by
 have:=gt [x] l
 rw[gS] at this;exact this
theorem iv:lsum ([]:LL)=0:=rfl
def ov(x y:Lot):Int:=if x.1=y.1 then max 0 (min (x.2.1+x.2.2) (y.2.1+y.2.2) - max x.2.1 y.2.1) else 0
theorem FH(x y:Lot):ov x y=ov y x:=by
 unfold ov;by_cases h:x.1=y.1
 ·rw[if_pos h,if_pos h.symm];omega
 ·rw[if_neg h,if_neg (fun q=>h q.symm)]
theorem Bo(x y:Lot):0≤ov x y:=by
 unfold ov;split<;>omega
theorem pK{x y:Lot}(hx:LotOk x)(hy:LotOk y):ov x y=0↔apart x y:=by
 unfold LotOk at hx hy;unfold ov apart;split<;>omega
def OV:LL→Lot→Int
 | [],_=>0
 | x::l,y=>ov x y+OV l y
theorem va:∀(l:LL) (y:Lot),0≤OV l y
 | [],_=>bu _
 | x::l,y=>by
  have:=va l y
  have:=Bo x y
  show 0≤ov x y+OV l y;omega
theorem iW:∀(a b:LL) (y:Lot),OV (a++b) y=OV a y+OV b y
 | [],b,y=>by show OV b y=0+OV b y;omega
 | x::a,b,y=>by
  have:=iW a b y
  show ov x y+OV (a++b) y=ov x y+OV a y+OV b y;omega
theorem kH(x y:Lot):OV [x] y=ov x y:=by show ov x y+0=ov x y;omega
theorem tw:∀{l:LL} {y:Lot},OV l y=0→∀x∈l,ov x y=0
 | x::l,y,h,z,hz=>by
  have h1:=va l y;have h2:=Bo x y;have h3:ov x y+OV l y=0:=h;rcases List.mem_cons.1 hz with rfl|hz
  ·omega
  ·exact tw ac z hz
def OO(l:LL):LL→Int
 | []=>0
 | x::s=>OV l x+OO l s
theorem tz(y:Lot)(l:LL):∀s,OO (y::l) s=OO [y] s+OO l s
 | []=>rfl
 | x::s=>by
  have:=tz y l s
  have e:=kH y x;show(ov y x+OV l x)+OO (y::l) s=(OV [y] x+OO [y] s)+(OV l x+OO l s);omega
theorem xd:∀s,OO [] s=0
 | []=>rfl
 | x::s=>by
  have:=xd s
  show 0+OO [] s=0;omega
theorem DU(y:Lot):∀s,OO [y] s=OV s y
 | []=>rfl
 | x::s=>by
  have:=DU y s
  have e:=kH y x;have c:=FH x y;show OV [y] x+OO [y] s=ov x y+OV s y;omega
theorem zX:∀l s,OO l s=OO s l
 | [],s=>xd s
 | y::l,s=>by
  rw[tz,DU,zX l s];rfl
theorem Ea{x y:Lot}(hx:LotOk x)(hy:LotOk y):lsum (subS x y)=y.2.2 - ov y x:=by
 unfold LotOk at hx hy;unfold subS ov;by_cases hc:y.1≠x.1∨x.2.1+x.2.2≤y.2.1∨y.2.1+y.2.2≤x.2.1
 ·rw[if_pos hc,gS];by_cases hf:y.1=x.1
  ·rw[if_pos hf];omega
  ·rw[if_neg hf];omega
 ·have hf:y.1=x.1:=ac;rw[if_neg hc,if_pos hf,gt];by_cases g1:y.2.1<x.2.1
  ·rw[if_pos g1,gS];by_cases g2:x.2.1+x.2.2<y.2.1+y.2.2
   ·rw[if_pos g2,gS];dsimp only;omega
   ·rw[if_neg g2,iv];dsimp only;omega
  ·rw[if_neg g1,iv];by_cases g2:x.2.1+x.2.2<y.2.1+y.2.2
   ·rw[if_pos g2,gS];dsimp only;omega
   ·rw[if_neg g2,iv];omega
theorem Fu{x y t:Lot}(hx:LotOk x)(hy:LotOk y)(ht:LotOk t)(h:apart x t):OV (subS x y) t=ov y t:=by
 unfold LotOk at hx hy ht;unfold apart at h;unfold subS;split
 ·exact kH y t
 ·rename_i hn;rw[iW];by_cases hf:x.1=t.1
  ·have hyt:y.1=t.1:=ac;split<;>split<;>simp only[kH,OV,ov,if_pos hf,if_pos hyt]<;>omega
  ·have hyt:¬y.1=t.1:=ac;split<;>split<;>simp only[kH,OV,ov,if_neg hf,if_neg hyt]<;>omega
theorem qD{x:Lot}(hx:LotOk x):∀{l:LL},(∀y∈l,LotOk y)→lsum (subL l x)=lsum l - OV l x
 | [],_=>rfl
 | y::l,h=>by
  have e:subL (y::l) x=subS x y++subL l x:=bY;have ih:=qD hx (l:=l) (fun z hz=>h z (av _ hz));have h1:=Ea hx (h y aw);rw[e,gt,gF,ih,h1];show _=y.2.2+lsum l - (ov y x+OV l x);omega
theorem zu{x t:Lot}(hx:LotOk x)(ht:LotOk t)(ha:apart x t):∀{l:LL},(∀y∈l,LotOk y)→OV (subL l x) t=OV l t
 | [],_=>rfl
 | y::l,h=>by
  have e:subL (y::l) x=subS x y++subL l x:=bY;have ih:=zu hx ht ha (l:=l) (fun z hz=>h z (av _ hz));rw[e,iW,ih,Fu hx (h y aw) ht ha];rfl
theorem zN:∀{set l:LL},(∀x∈set,LotOk x)→(∀y∈l,LotOk y)→Apart set→lsum (set.foldl subL l)=lsum l - OO l set
 | [],l,_,_,_=>by show lsum l=lsum l - 0;omega
 | x::set,l,hs,hl,ha=>by
  obtain⟨a1,a2⟩:=List.pairwise_cons.1 ha;have hx:=hs x aw;have hs2:∀z∈set,LotOk z:=fun z hz=>hs z (av _ hz);have ih:=zN (set:=set) (l:=subL l x) hs2 (pF hx hl) a2
  have hoo:∀{s:LL},(∀z∈s,LotOk z)→(∀z∈s,apart x z)→OO (subL l x) s=OO l s:=fun {s}=>by
   induction s with
   | nil=>intro _ _;rfl
   | cons z s ih2 =>
    intro g1 g2;have h1:=zu hx (g1 z aw) (g2 z aw) hl;have h2:=ih2 (fun q hq=>g1 q (av _ hq)) (fun q hq=>g2 q (av _ hq));show OV (subL l x) z+OO (subL l x) s=OV l z+OO l s;omega
  have h3:=qD hx hl;have h4:=hoo hs2 a1;show lsum (set.foldl subL (subL l x))=lsum l - (OV l x+OO l set);omega
theorem tR:∀(r out:LL),lsum (r.foldl be out)=lsum out+lsum r
 | [],out=>by show lsum out=lsum out+0;omega
 | x::r,out=>by
  have:=tR r (be out x)
  rw[nQ] at this;rw[gF];show lsum (r.foldl be (be out x))=_;omega
theorem vf{set:LL}(hs:∀x∈set,LotOk x)(ha:Apart set):∀{s out:LL},(∀y∈s,LotOk y)→lsum (s.foldl (fun out y=>(fx set y).foldl be out) out)=lsum out+lsum s - OO s set
 | [],out,_=>by rw[xd];show lsum out=lsum out+0 - 0;omega
 | y::s,out,h=>by
  have hy:=h y aw;have ih:=vf hs ha (s:=s) (out:=(fx set y).foldl be out) (fun z hz=>h z (av _ hz));have h1:lsum (fx set y)=lsum [y] - OO [y] set:=zN hs (fun z hz=>by rw[List.mem_singleton.1 hz];exact hy) ha;rw[gS] at h1;rw[tR,h1] at ih;rw[gF,tz];show lsum (s.foldl _ ((fx set y).foldl be out))=_;omega
theorem mu{s set:LL}(h:∀y∈s,LotOk y)(hs:∀x∈set,LotOk x)(ha:Apart set):lsum (eh s set)=lsum s - OO s set:=by
 have:=vf hs ha (s:=s) (out:=[]) h
 rw[iv] at this;unfold eh;omega
def sl(x y:Lot):Prop:=x.1<y.1∨(x.1=y.1∧x.2.1+x.2.2<y.2.1)
structure MrgI (l:Lot) (z:LL×LL×Int×Int) (r:LL):Prop where
 lo:0≤z.2.2.1∧z.2.2.1≤l.2.1
 hi:l.2.1+l.2.2≤z.2.2.2
 hiC:z.2.2.2=l.2.1+l.2.2∨∀x∈r,x.1=l.1→z.2.2.2<x.2.1
 loC:z.2.2.1=l.2.1∨∀x∈r,x.1=l.1→l.2.1<x.2.1
 s1:(z.1++r).Pairwise sl
 s2:(z.2.1++r).Pairwise sl
 s3:∀y∈z.1,y.1<l.1∨(y.1=l.1∧y.2.1+y.2.2<z.2.2.1)
 s4:∀y∈z.2.1,(l.1<y.1∨(y.1=l.1∧z.2.2.2<y.2.1))∧1≤y.2.2
def zsum(z:LL×LL×Int×Int):Int:=lsum z.1+lsum z.2.1+(z.2.2.2 - z.2.2.1)
def zov(f:Int)(z:LL×LL×Int×Int)(t:Lot):Int:=OV z.1 t+OV z.2.1 t+ov (f,z.2.2.1,z.2.2.2 - z.2.2.1) t
theorem Eo{l:Lot}{z:LL×LL×Int×Int}{x:Lot}{r:LL}(hl:LotOk l)(hx:LotOk x)(h:MrgI l z (x::r)):MrgI l (insS l.1 z x) r∧zsum (insS l.1 z x)=zsum z+x.2.2 - ov x l∧(ov x l=0→∀t,LotOk t→zov l.1 (insS l.1 z x) t=zov l.1 z t+ov x t):=by
 obtain⟨⟨b0,b1⟩,b2,b3,b4,s1,s2,s3,s4⟩:=h;have hxl:x∈x::r:=aw;have hr:∀{y},y∈r→y∈x::r:=fun hy=>av _ hy;have hxr:∀y∈r,sl x y:=(List.pairwise_cons.1 (List.pairwise_append.1 s1).2.1).1;have h1x:∀y∈z.1,sl y x:=fun y hy=>(List.pairwise_append.1 s1).2.2 y hy x hxl;have h2x:∀y∈z.2.1,sl y x:=fun y hy=>(List.pairwise_append.1 s2).2.2 y hy x hxl;have hl2:=hl;have hx2:=hx;unfold LotOk at hl2 hx2;have sub1:(z.1++r).Pairwise sl:=s1.sublist (List.Sublist.append_left (List.sublist_cons_self x r) _);have sub2:(z.2.1++r).Pairwise sl:=s2.sublist (List.Sublist.append_left (List.sublist_cons_self x r) _);unfold insS;by_cases c1:x.1<l.1∨(x.1=l.1∧x.2.1+x.2.2<z.2.2.1)
 ·rw[if_pos c1];have e0:ov x l=0:=by unfold ov;split<;>omega
  refine⟨⟨⟨b0,b1⟩,b2,b3.imp id (fun q y hy=>q y (hr hy)),b4.imp id (fun q y hy=>q y (hr hy)),?_,sub2,?_,s4⟩,?_,fun _ t _=>?_⟩
  ·rw[aH];exact s1
  ·intro y hy;rcases List.mem_append.1 hy with hy|hy
   ·exact s3 y hy
   ·rw[List.mem_singleton.1 hy];exact c1
  ·rw[e0];unfold zsum;dsimp only;rw[gt,gS];omega
  ·unfold zov;dsimp only;rw[iW,kH];omega
 rw[if_neg c1];by_cases c2:l.1<x.1∨z.2.2.2<x.2.1
 ·rw[if_pos c2];have e0:ov x l=0:=by unfold ov;split<;>omega
  refine⟨⟨⟨b0,b1⟩,b2,b3.imp id (fun q y hy=>q y (hr hy)),b4.imp id (fun q y hy=>q y (hr hy)),sub1,?_,s3,?_⟩,?_,fun _ t _=>?_⟩
  ·rw[aH];exact s2
  ·intro y hy;rcases List.mem_append.1 hy with hy|hy
   ·exact s4 y hy
   ·rw[List.mem_singleton.1 hy];dsimp only;omega
  ·rw[e0];unfold zsum;dsimp only;rw[gt,gS];omega
  ·unfold zov;dsimp only;rw[iW,kH];omega
 rw[if_neg c2];have hf:x.1=l.1:=ac
 have hhi:z.2.2.2=l.2.1+l.2.2:=by
  rcases b3 with q|q
  ·exact q
  ·have:=q x hxl hf
   omega
 have hlo:z.2.2.1=l.2.1∨l.2.1<x.2.1:=b4.imp id (fun q=>q x hxl hf);refine⟨⟨⟨by dsimp only;omega,by dsimp only;omega⟩,by dsimp only;omega,?_,?_,sub1,sub2,?_,?_⟩,?_,fun e0 t ht=>?_⟩
 ·dsimp only;by_cases q:x.2.1+x.2.2≤l.2.1+l.2.2
  ·left;omega
  ·right;intro y hy hyf;have:=hxr y hy
   unfold sl at this;omega
 ·dsimp only;by_cases q:z.2.2.1≤x.2.1
  ·rcases b4 with g|g
   ·left;omega
   ·right;intro y hy hyf;exact g y (hr hy) hyf
  ·right;intro y hy hyf;have:=hxr y hy
   unfold sl at this;omega
 ·intro y hy;have g1:=s3 y hy;have g2:=h1x y hy;unfold sl at g2;dsimp only;omega
 ·intro y hy;exfalso;have g1:=s4 y hy;have g2:=h2x y hy;unfold sl at g2;omega
 ·unfold zsum ov;rw[if_pos hf];dsimp only;omega
 ·unfold ov at e0;rw[if_pos hf] at e0;unfold zov;dsimp only
  have key:ov (l.1,min z.2.2.1 x.2.1,max z.2.2.2 (x.2.1+x.2.2) - min z.2.2.1 x.2.1) t=ov (l.1,z.2.2.1,z.2.2.2 - z.2.2.1) t+ov x t:=by
   unfold LotOk at ht;unfold ov;dsimp only;by_cases g:l.1=t.1
   ·rw[if_pos g,if_pos g,if_pos (hf.trans g)];omega
   ·rw[if_neg g,if_neg g,if_neg (fun q=>g (hf▸q))];omega
  omega
theorem sU{l:Lot}(hl:LotOk l):∀{r:LL} {z:LL×LL×Int×Int},(∀x∈r,LotOk x)→MrgI l z r→MrgI l (r.foldl (insS l.1) z) []∧zsum (r.foldl (insS l.1) z)=zsum z+lsum r - OV r l∧(OV r l=0→∀t,LotOk t→zov l.1 (r.foldl (insS l.1) z) t=zov l.1 z t+OV r t)
 | [],z,_,h=>⟨h,by show zsum z=zsum z+0 - 0;omega,fun _ t _=>by show zov l.1 z t=zov l.1 z t+0;omega⟩
 | x::r,z,hr,h=>by
  obtain⟨h1,h2,h3⟩:=Eo hl (hr x aw) h;obtain⟨i1,i2,i3⟩:=sU hl (r:=r) (z:=insS l.1 z x) (fun y hy=>hr y (av _ hy)) h1;have e:OV (x::r) l=ov x l+OV r l:=rfl;have n1:=Bo x l;have n2:=va r l;refine⟨i1,?_,fun q t ht=>?_⟩
  ·show zsum (r.foldl (insS l.1) (insS l.1 z x))=_;rw[gF];omega
  ·have g1:=h3 ac t ht;have g2:=i3 ac t ht;show zov l.1 (r.foldl (insS l.1) (insS l.1 z x)) t=zov l.1 z t+(ov x t+OV r t);omega
theorem Ey{l:Lot}{s:LL}(hl:LotOk l)(hs:∀x∈s,LotOk x)(hp:s.Pairwise sl):(insL s l).Pairwise sl∧lsum (insL s l)=lsum s+l.2.2 - OV s l∧(OV s l=0→∀t,LotOk t→OV (insL s l) t=OV s t+ov l t):=by
 have hl2:=hl;unfold LotOk at hl2;obtain⟨⟨_,_,_,_,_,_,s3,s4⟩,h2,h3⟩:=sU hl (r:=s) (z:=([],[],l.2.1,l.2.1+l.2.2)) hs ⟨⟨hl2.2.1,bu _⟩,bu _,.inl rfl,.inl rfl,hp,hp,(fun _ h=>by cases h),(fun _ h=>by cases h)⟩;have hm:=sU hl (r:=s) (z:=([],[],l.2.1,l.2.1+l.2.2)) hs ⟨⟨hl2.2.1,bu _⟩,bu _,.inl rfl,.inl rfl,hp,hp,(fun _ h=>by cases h),(fun _ h=>by cases h)⟩;have p1:=hm.1.s1;have p2:=hm.1.s2;have q1:=hm.1.lo;have q2:=hm.1.hi;rw[ba] at p1 p2;have e:s.foldl (insS l.1) ([],[],l.2.1,l.2.1+l.2.2)=insG s l:=rfl;rw[e] at s3 s4 h2 h3 p1 p2 q1 q2;clear hm;have z0:zsum ([],[],l.2.1,l.2.1+l.2.2)=l.2.2:=by unfold zsum;dsimp only;rw[iv];omega
 unfold insL;generalize insG s l=z at *;refine⟨?_,?_,fun q t ht=>?_⟩
 ·refine List.pairwise_append.2 ⟨List.pairwise_append.2 ⟨p1,cR _ _,fun y hy w hw=>?_⟩,p2,fun y hy w hw=>?_⟩
  ·rw[List.mem_singleton.1 hw];have:=s3 y hy
   unfold sl;dsimp only;omega
  ·have g2:=s4 w hw;rcases List.mem_append.1 hy with hy|hy
   ·have g1:=s3 y hy;unfold sl;omega
   ·rw[List.mem_singleton.1 hy];unfold sl;dsimp only;omega
 ·rw[gt,gt,gS];rw[z0] at h2;unfold zsum at h2;dsimp only;omega
 ·have g:=h3 q t ht
  have e0:zov l.1 ([],[],l.2.1,l.2.1+l.2.2) t=ov l t:=by
   unfold zov;dsimp only;have:l.2.1+l.2.2 - l.2.1=l.2.2:=ac;rw[this];show 0+0+ov (l.1,l.2.1,l.2.2) t=ov l t;rw[show(l.1,l.2.1,l.2.2)=l from rfl];omega
  rw[e0] at g;unfold zov at g;rw[iW,iW,kH];omega
theorem kM{ps:LL}(h:∀x∈ps,LotOk x):∀i,i≤ps.length→(setL (ps.take i)).Pairwise sl∧lsum (setL (ps.take i))≤lsum (ps.take i)∧(lsum (setL (ps.take i))=lsum (ps.take i)→Apart (ps.take i)∧∀t,LotOk t→OV (setL (ps.take i)) t=OV (ps.take i) t)∧(Apart (ps.take i)→lsum (setL (ps.take i))=lsum (ps.take i))
 | 0,_=>⟨List.Pairwise.nil,bu _,fun _=>⟨List.Pairwise.nil,fun _ _=>rfl⟩,fun _=>rfl⟩
 | i+1,hi=>by
  obtain⟨h1,h2,h3,h4⟩:=kM h i ac;have hlt:i<ps.length:=ac;have hx:=h _ (aI hlt);have hst:=(mw h i ac).2;have e:setL (ps.take (i+1))=insL (setL (ps.take i)) ps[i]!:=ig insL [] hlt;have et:ps.take (i+1)=ps.take i++[ps[i]!]:=by rw[aC hlt,getElem!_of hlt]
  have hls:lsum (ps.take (i+1))=lsum (ps.take i)+ps[i]!.2.2:=dV ps hlt;have hti:∀x∈ps.take i,LotOk x:=fun x hq=>h x (cz hq);obtain⟨g1,g2,g3⟩:=Ey hx hst h1;have nn:=va (setL (ps.take i)) ps[i]!;rw[e,hls];refine⟨g1,ac,fun q=>?_,fun q=>?_⟩
  ·obtain⟨a1,a2⟩:=h3 ac;have z:OV (setL (ps.take i)) ps[i]! = 0:=ac;rw[et];refine⟨List.pairwise_append.2 ⟨a1,cR _ _,fun y hy w hw=>?_⟩,fun t ht=>?_⟩
   ·rw[List.mem_singleton.1 hw];rw[a2 _ hx] at z;exact(pK (hti y hy) hx).1 (tw z y hy)
   ·rw[g3 z t ht,a2 t ht,iW,kH]
  ·rw[et] at q;obtain⟨q1,_,q3⟩:=List.pairwise_append.1 q;have h5:=h4 q1;have h6:=(h3 h5).2 _ hx
   have z:∀{l:LL},(∀y∈l,LotOk y)→(∀y∈l,apart y ps[i]!)→OV l ps[i]! = 0:=fun {l}=>by
    induction l with
    | nil=>intro _ _;rfl
    | cons y l ih =>
     intro w1 w2;have e1:=(pK (w1 y aw) hx).2 (w2 y aw);have e2:=ih (fun q hq=>w1 q (av _ hq)) (fun q hq=>w2 q (av _ hq));show ov y ps[i]! + OV l ps[i]! = 0;omega
   have h7:=z hti (fun y hy=>q3 y hy _ (List.mem_singleton_self _));omega
theorem lY{ps:LL}(h:∀x∈ps,LotOk x):lsum (setL ps)=lsum ps↔Apart ps:=by
 obtain⟨_,_,h3,h4⟩:=kM h ps.length (aB _);rw[bG] at h3 h4;exact⟨fun q=>(h3 q).1,h4⟩
theorem Ed{s:LL}(h:s.Pairwise sl):Apart s:=h.imp (fun {a b} q=>by unfold sl at q;unfold apart;omega)
theorem vb{a b:LL}:∀{s:LL},(∀t∈s,OV a t=OV b t)→OO a s=OO b s
 | [],_=>rfl
 | x::s,h=>by
  have h1:=h x aw;have h2:=vb (s:=s) (fun t ht=>h t (av _ ht));show OV a x+OO a s=OV b x+OO b s;omega
theorem Aa{ps own:LL}(hw:fT ps own)(ha:Apart own)(hd:lsum (setL ps)=lsum ps):lsum (eh own ps)=lsum own - lsum ps:=by
 obtain⟨⟨h1,_⟩,⟨h2,_⟩,h3⟩:=hw;have hs:=kL h1;have e1:lsum (fF ps own)=lsum (setL ps) - OO (setL ps) own:=mu hs.2 h2 ha;rw[h3,iv] at e1;have hap:=(lY h1).1 hd;have e2:=mu h2 h1 hap;obtain⟨_,_,g3,_⟩:=kM h1 ps.length (aB _);rw[bG] at g3;have e3:OO (setL ps) own=OO ps own:=vb (fun t ht=>(g3 hd).2 t (h2 t ht));rw[zX own ps] at e2;omega
