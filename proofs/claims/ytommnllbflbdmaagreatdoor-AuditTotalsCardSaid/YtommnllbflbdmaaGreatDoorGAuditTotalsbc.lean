/- Lemmas and contracts of functions. -/
import Derived.Test.YtommnllbflbdmaaGreatDoorGAuditTotalsbb
import Derived.Test.YtommnllbflbdmaaGreatDoorGAuditTotalsav
set_option linter.all false
set_option maxHeartbeats 4000000
namespace Go.Proofs.YtommnllbflbdmaaGreatDoor
section
open Go.V
attribute [local irreducible] G GO GP GPW GPK Ev Ef EfR Ent CB GB V.Enters
def FlOk (fl:List FlV):Prop:=fl.length≤9000000∧∀ f∈fl,(∀ x∈f.m.parts,LotOk x)∧f.m.parts.length≤2047
def kC (fl:List FlM) (p:Lot):Prop:=∃ f∈fl,f.kind=5∧fK f.parts [p]≠[]
instance (fl:List FlM) (p:Lot):Decidable (kC fl p):=by unfold kC;infer_instance
def arr1 (sh:Int) (fl:List FlM) (p:Lot):Int:=if p.1 / 4294967296=sh∨11<p.1 / 4294967296 then 1 else if kC fl p then 8 else 0
def arrG (sh:Int) (fl:List FlM):List Lot→Int
 | []=>0
 | p::ps=>if arr1 sh fl p=0 then arrG sh fl ps else arr1 sh fl p
def jB (fl:List FlM) (item:Int) (p:Lot):Prop:=(¬ ∃ f∈fl,f.kind=9∧f.frm=0∧fK f.parts [p]≠[])∧∃ f∈fl,f.kind≠6∧f.to=0∧f.item=item∧fA [p] [(f.id,0,f.n)]
instance (fl:List FlM) (item:Int) (p:Lot):Decidable (jB fl item p):=by unfold jB;infer_instance
def revG (fl:List FlM) (item:Int) (ps:List Lot):Int:=if ∀ p∈ps,jB fl item p then 0 else 10
theorem nV {p:Lot} (h:LotOk p):ey [p]:=⟨fun x hx=>by rw [List.mem_singleton.1 hx];exact h,by show 1≤4096;omega⟩
theorem yM {fl:List FlV} (h:FlOk fl) {p:Lot} (hp:LotOk p) {f:FlV} (hf:f∈fl):ey f.m.parts∧(fh f.m.parts [p]).length≤4096:=by
 obtain ⟨h1,h2⟩:=h.2 f hf
 refine ⟨⟨h1,ab⟩,?_⟩
 have:=(jN h1 (nV hp).1).2
 rw [aT] at this
 omega
theorem tg {fl:List FlV} {k:Nat} (h:k<fl.length) {L:List HP}:Ent (allP flP fl::L) (isl ah 3 fl[k]!.pad fl[k]!.m.parts::isl (encZ .i64) 1 fl[k]!.mad fl[k]!.m.made::allP flP fl::L):=(Ent.e7 (f:=flP) (aG h)).trans Ent.andE
theorem qL {xs:List Lot} {i:Nat} (h:i<xs.length):(xs.drop i).take 1=[xs[i]!]:=by
 rw [ew h]
 rfl
abbrev xh:List Stp:=[.ev 0,.ev 1,.ev 2,.ev 3,.ev 4,.ev 5,.ev 6,.ev 7,.ev 8,.ev 9,.ev 10,.ev 11,.ev 12,.ev 13,.ev 14,.ev 15,.ev 16,.ev 17,.ev 18,.ev 19,.ev 20,.ev 21,.ev 22,.ef 23,.ev 24,.ev 25,.ev 26]
theorem dS {φ ψ:Prop} (k:ψ) (h:Hid ψ→φ:=by intro k;(with_reducible apply G.d8);first|refine G.d7 (N:=66) (id:=10) xh mixed an (Hid.out k)):φ:=h ⟨k⟩
theorem uR {L:List HP} (b:Nat) (sh:Int) (x:RLX) (hfl:FlOk x.flows) (ad:Option Addr) (n c:Nat) (ps:List Lot) [hr:Rds L ad Lot ah 3 ps] (hn:n=ps.length) (hc:ps.length≤c) (hv:∀ p∈ps,LotOk p) (hb:∀ p∈ps,p.1≤9223372036854775807) (hl:ps.length≤4096) :
  Tri Tryz.prog 227 #[.pointer (some ⟨b,0,none⟩),.slice ad n c] (rlL b sh x L) (fun v L'=>v=.int .i64 (arrG sh (x.flows.map FlV.m) ps)∧L' = rlL b sh x L):=by
 subst hn
 have hfl0:=hfl.1
 refine Tri.body (args:=[.pointer (some ⟨b,0,none⟩),.slice ad ps.length c]) 66 GL Tryz.func227 rfl rfl rfl (by simp) ?_
 simp only [rlL,aJ]
 repeat first|refine aa ?_|intro _|refine dS ?_
 refine G.loop (α:=Nat) (fun i=>i≤ps.length∧arrG sh (x.flows.map FlV.m) ps=arrG sh (x.flows.map FlV.m) (ps.drop i)) (fun i=>[(0,.pointer (some ⟨b,0,none⟩)),(1,.slice ad ps.length c),(5,.int .i64 (i:Int))]) (fun _=>rlL b sh x L) (fun i=>ps.length - i) 0 ⟨al _,rfl⟩ ai (by simp only [rlL,aJ];exact ae) ?_
 rintro i ⟨hi,he⟩
 simp only [rlL,aJ]
 by_cases hlt:i<ps.length
 case neg =>
  have e0:ps.drop i=[]:=aY ab
  rw [e0] at he
  repeat first|refine aa ?_|intro _|refine dS ?_
  exact KX.d7 ag ae ⟨by rw [he];rfl,rfl⟩
 have hii:(i:Int).toNat=i:=av i
 have hlt' : (i:Int).toNat<ps.length:=ab
 have hpo:=hv _ (aG hlt')
 have hp0:=hpo.1
 have hp1:=hb _ (aG hlt')
 have hdr:ps.drop i=ps[(i:Int).toNat]!::ps.drop (i+1):=by rw [hii];exact ew hlt
 rw [hdr] at he
 haveI hrd:Rds L (advA ad c 3 i) Lot ah 3 [ps[(i:Int).toNat]!]:=by
  have h:=Rds.take (Rds.drop hr hc i) 1
  rwa [qL hlt,← hii,hii] at h
 have hstep:arrG sh (x.flows.map FlV.m) (ps[(i:Int).toNat]!::ps.drop (i+1))=if arr1 sh (x.flows.map FlV.m) ps[(i:Int).toNat]! = 0 then arrG sh (x.flows.map FlV.m) (ps.drop (i+1)) else arr1 sh (x.flows.map FlV.m) ps[(i:Int).toNat]!:=rfl
 rw [hstep] at he
 repeat first|refine aa ?_|intro _|refine dS ?_
 generalize hpg:ps[(i:Int).toNat]! = p at *
 by_cases h1:p.1 / 4294967296=sh
 ·have e1:arr1 sh (x.flows.map FlV.m) p=1:=if_pos (.inl h1)
  rw [e1,if_neg ac] at he
  repeat first|refine aa ?_|intro _|refine dS ?_
  exact KX.d7 ag ae ⟨by rw [he];rfl,rfl⟩
 by_cases h2:11<p.1 / 4294967296
 ·have e1:arr1 sh (x.flows.map FlV.m) p=1:=if_pos (.inr h2)
  rw [e1,if_neg ac] at he
  repeat first|refine aa ?_|intro _|refine dS ?_
  exact KX.d7 ag ae ⟨by rw [he];rfl,rfl⟩
 have e1:arr1 sh (x.flows.map FlV.m) p=if kC (x.flows.map FlV.m) p then 8 else 0:=if_neg (fun q=>q.elim h1 h2)
 rw [e1] at he
 repeat first|refine aa ?_|intro _|refine dS ?_
 refine G.loop (α:=Nat) (fun k=>k≤x.flows.length∧∀ j,j<k→¬(x.flows[j]!.m.kind=5∧fK x.flows[j]!.m.parts [p]≠[])) (fun k=>[(0,.pointer (some ⟨b,0,none⟩)),(1,.slice ad ps.length c),(5,.int .i64 (i:Int)),(7,.int .i64 (k:Int))]) (fun _=>rlL b sh x L) (fun k=>x.flows.length - k) 0 ⟨al _,fun j hj=>absurd hj (bI j)⟩ ai (by simp only [rlL,aJ];exact ae) ?_
 rintro k ⟨hk,hnone⟩
 simp only [rlL,aJ]
 by_cases hlk:k<x.flows.length
 case neg =>
  have hno:¬kC (x.flows.map FlV.m) p:=by
   rintro ⟨f,hf,h3,h4⟩
   obtain ⟨u,hu,rfl⟩:=List.mem_map.1 hf
   obtain ⟨j,hj,rfl⟩:=List.mem_iff_getElem.1 hu
   refine hnone j ab ?_
   rw [getElem!_of hj]
   exact ⟨h3,h4⟩
  rw [if_neg hno,if_pos rfl] at he
  repeat first|refine aa ?_|intro _|refine dS ?_
  refine ⟨i+1,⟨ab,he⟩,ab,?_,?_⟩
  ·rw [aM i]
   exact ai
  ·try simp only [rlL,aJ]
   exact ae
 have hkk:(k:Int).toNat=k:=av k
 have hlk' : (k:Int).toNat<x.flows.length:=ab
 have hfm:=yM hfl hpo (aG hlk')
 have hnext:¬(x.flows[(k:Int).toNat]!.m.kind=5∧fK x.flows[(k:Int).toNat]!.m.parts [p]≠[])→∀ j,j<k+1→¬(x.flows[j]!.m.kind=5∧fK x.flows[j]!.m.parts [p]≠[]):=fun h j hj=>by
  rcases bG j k with h3|h3
  ·exact hnone j h3
  ·obtain rfl:j=k:=ab
   rw [hkk] at h
   exact h
 by_cases h3:x.flows[(k:Int).toNat]!.m.kind=5
 case neg =>
  repeat first|refine aa ?_|intro _|refine dS ?_
  refine ⟨k+1,⟨ab,hnext (fun q=>h3 q.1)⟩,ab,?_,?_⟩
  ·rw [aM k]
   exact ai
  ·try simp only [rlL,aJ]
   exact ae
 refine G.ent (L':=isl ah 3 x.flows[(k:Int).toNat]!.pad x.flows[(k:Int).toNat]!.m.parts::rlL b sh x L) ((Ent.at (A:=allP flP x.flows) (tg hlk')).trans (by simp only [rlL,aJ];exact ae)) ?_
 simp only [rlL,aJ]
 repeat first|refine aa ?_|intro _|refine dS ?_
 rw [hii,show ((i:Int)+1).toNat - i=1 by omega]
 refine GPW.ef (Ef.d7 (re x.flows[(k:Int).toNat]!.pad x.flows[(k:Int).toNat]!.m.parts.length x.flows[(k:Int).toNat]!.pcap x.flows[(k:Int).toNat]!.m.parts (advA ad c 3 i) 1 _ [p] rfl rfl hfm.1 (nV hpo) hfm.2) rfl) ac ?_
 rintro _ _ ⟨ad2,c2,rfl,rfl⟩
 by_cases h4:fK x.flows[(k:Int).toNat]!.m.parts [p]=[]
 ·have h5:((fK x.flows[(k:Int).toNat]!.m.parts [p]).length:Int)=0:=by rw [h4];rfl
  repeat first|refine aa ?_|intro _|refine dS ?_
  refine ⟨k+1,⟨ab,hnext (fun q=>q.2 h4)⟩,ab,?_,?_⟩
  ·rw [aM k]
   exact ai
  ·try simp only [rlL,aJ]
   exact ae
 ·have h5:0<((fK x.flows[(k:Int).toNat]!.m.parts [p]).length:Int):=by
   have:=List.length_pos_iff.2 h4
   omega
  have hyes:kC (x.flows.map FlV.m) p:=⟨x.flows[(k:Int).toNat]!.m,alStd0List_mem_map_of_mem (aG hlk'),h3,h4⟩
  rw [if_pos hyes,if_neg ac] at he
  repeat first|refine aa ?_|intro _|refine dS ?_
  exact KX.d7 ag ae ⟨by rw [he];rfl,rfl⟩
def gotP (f:FlM) (item:Int) (p:Lot):Prop:=f.kind≠6∧f.to=0∧f.item=item∧fA [p] [(f.id,0,f.n)]
def gotN (fl:List FlV) (item:Int) (p:Lot) (k:Nat):Prop:=∃ j,j<k∧gotP fl[j]!.m item p
noncomputable instance (fl:List FlV) (item:Int) (p:Lot) (k:Nat):Decidable (gotN fl item p k):=Classical.propDecidable _
theorem Cf (fl:List FlV) (item:Int) (p:Lot):¬gotN fl item p 0:=fun ⟨_,hj,_⟩=>absurd hj (bI _)
theorem Cg {fl:List FlV} {item:Int} {p:Lot} {k:Nat}:gotN fl item p (k+1)↔gotN fl item p k∨gotP fl[k]!.m item p:=by
 constructor
 ·rintro ⟨j,hj,h⟩
  rcases bG j k with h3|h3
  ·exact .inl ⟨j,h3,h⟩
  ·obtain rfl:j=k:=ab
   exact .inr h
 ·rintro (⟨j,hj,h⟩|h)
  ·exact ⟨j,ab,h⟩
  ·exact ⟨k,ab,h⟩
abbrev xg:List Stp:=[.ev 0,.ev 1,.ev 2,.ev 3,.ev 4,.ev 5,.ev 6,.ev 7,.ev 8,.ev 9,.ev 10,.ev 11,.ev 12,.ev 13,.ev 14,.ev 15,.ev 16,.ef 17,.ev 18,.ev 19,.ev 20]
theorem cG {φ ψ:Prop} (k:ψ) (h:Hid ψ→φ:=by intro k;(with_reducible apply G.d8);first|refine G.d7 (N:=89) (id:=13) xg mixed an (Hid.out k)):φ:=h ⟨k⟩
theorem uH {L:List HP} (b:Nat) (sh:Int) (x:RLX) (hfl:FlOk x.flows) (m:MvV) [hr:Rds L m.pad Lot ah 3 m.m.parts] (hc:m.m.parts.length≤m.pcap) (hv:∀ p∈m.m.parts,LotOk p) (hl:m.m.parts.length≤4096) :
  Tri Tryz.prog 228 #[.pointer (some ⟨b,0,none⟩),.agg (aF m).toArray] (rlL b sh x L) (fun v L'=>v=.int .i64 (revG (x.flows.map FlV.m) m.m.item m.m.parts)∧L' = rlL b sh x L):=by
 obtain ⟨⟨frm,to,item,n,ps⟩,ad,c⟩:=m
 dsimp only at hr hc hv hl
 have hfl0:=hfl.1
 have hbad:∀ {p:Lot},p∈ps→¬jB (x.flows.map FlV.m) item p→revG (x.flows.map FlV.m) item ps=10:=fun hp h=>if_neg (fun q=>h (q _ hp))
 refine Tri.body (args:=[.pointer (some ⟨b,0,none⟩),.agg (aF ⟨⟨frm,to,item,n,ps⟩,ad,c⟩).toArray]) 89 GK Tryz.func228 rfl rfl rfl (by simp) ?_
 simp only [rlL,aJ,aF]
 repeat first|refine aa ?_|intro _|refine cG ?_
 rename_i b3
 refine G.loop (α:=Nat) (fun i=>i≤ps.length∧∀ j,j<i→jB (x.flows.map FlV.m) item ps[j]!) (fun i=>[(0,.pointer (some ⟨b,0,none⟩)),(3,.pointer (some ⟨b3,0,none⟩)),(5,.int .i64 (i:Int))]) (fun _=>rlL b sh x (obj b3 tMv [.int .i64 frm,.int .i64 to,.int .i64 item,.int .i64 n,.slice ad ps.length c]::L)) (fun i=>ps.length - i) 0 ⟨al _,fun j hj=>absurd hj (bI j)⟩ ai (by simp only [rlL,aJ];exact ae) ?_
 rintro i ⟨hi,hdone⟩
 simp only [rlL,aJ]
 by_cases hlt:i<ps.length
 case neg =>
  have e0:revG (x.flows.map FlV.m) item ps=0:=if_pos (fun p hp=>by
   obtain ⟨j,hj,rfl⟩:=List.mem_iff_getElem.1 hp
   have:=hdone j ab
   rwa [getElem!_of hj] at this)
  rw [e0]
  repeat first|refine aa ?_|intro _|refine cG ?_
  exact KX.d7 ag ae ⟨rfl,rfl⟩
 have hii:(i:Int).toNat=i:=av i
 have hpm:=aG hlt
 have hpo:=hv _ hpm
 haveI hrd:Rds L (advA ad c 3 i) Lot ah 3 [ps[i]!]:=by
  have h:=Rds.take (Rds.drop hr hc i) 1
  rwa [qL hlt] at h
 generalize hpg:ps[i]! = p at *
 repeat first|refine aa ?_|intro _|refine cG ?_
 refine G.loop (α:=Nat) (fun k=>k≤x.flows.length∧∀ j,j<k→¬(x.flows[j]!.m.kind=9∧x.flows[j]!.m.frm=0∧fK x.flows[j]!.m.parts [p]≠[])) (fun k=>[(0,.pointer (some ⟨b,0,none⟩)),(3,.pointer (some ⟨b3,0,none⟩)),(5,.int .i64 (i:Int)),(6,.bool (dB (gotN x.flows item p k))),(7,.int .i64 (k:Int))]) (fun _=>rlL b sh x (obj b3 tMv [.int .i64 frm,.int .i64 to,.int .i64 item,.int .i64 n,.slice ad ps.length c]::L)) (fun k=>x.flows.length - k) 0 ⟨al _,fun j hj=>absurd hj (bI j)⟩ ?_ (by simp only [rlL,aJ];exact ae) ?_
 ·rw [aC (Cf _ _ _)]
  exact ai
 rintro k ⟨hk,hnone⟩
 simp only [rlL,aJ]
 by_cases hlk:k<x.flows.length
 case neg =>
  obtain rfl:k=x.flows.length:=ab
  have hno:¬ ∃ f∈x.flows.map FlV.m,f.kind=9∧f.frm=0∧fK f.parts [p]≠[]:=by
   rintro ⟨f,hf,h3⟩
   obtain ⟨u,hu,rfl⟩:=List.mem_map.1 hf
   obtain ⟨j,hj,rfl⟩:=List.mem_iff_getElem.1 hu
   refine hnone j hj ?_
   rw [getElem!_of hj]
   exact h3
  have hiff:gotN x.flows item p x.flows.length↔jB (x.flows.map FlV.m) item p:=by
   constructor
   ·rintro ⟨j,hj,h3⟩
    exact ⟨hno,_,alStd0List_mem_map_of_mem (aG hj),h3⟩
   ·rintro ⟨_,f,hf,h3⟩
    obtain ⟨u,hu,rfl⟩:=List.mem_map.1 hf
    obtain ⟨j,hj,rfl⟩:=List.mem_iff_getElem.1 hu
    refine ⟨j,hj,?_⟩
    rw [getElem!_of hj]
    exact h3
  by_cases hb:jB (x.flows.map FlV.m) item p
  ·rw [aL (hiff.2 hb)]
   repeat first|refine aa ?_|intro _|refine cG ?_
   refine ⟨i+1,⟨ab,fun j hj=>?_⟩,ab,?_,?_⟩
   ·rcases bG j i with h3|h3
    ·exact hdone j h3
    ·obtain rfl:j=i:=ab
     rw [hpg]
     exact hb
   ·rw [aM i]
    exact ai
   ·try simp only [rlL,aJ]
    exact ae
  ·rw [aC (fun q=>hb (hiff.1 q)),hbad hpm hb]
   repeat first|refine aa ?_|intro _|refine cG ?_
   exact KX.d7 ag ae ⟨rfl,rfl⟩
 have hkk:(k:Int).toNat=k:=av k
 have hlk' : (k:Int).toNat<x.flows.length:=ab
 have hfk:=aG hlk
 have hfm:=yM hfl hpo hfk
 refine G.ent (L':=isl ah 3 x.flows[k]!.pad x.flows[k]!.m.parts::rlL b sh x (obj b3 tMv [.int .i64 frm,.int .i64 to,.int .i64 item,.int .i64 n,.slice ad ps.length c]::L)) ((Ent.at (A:=allP flP x.flows) (tg hlk)).trans (by simp only [rlL,aJ];exact ae)) ?_
 simp only [rlL,aJ]
 repeat first|refine aa ?_|intro _|refine cG ?_
 rw [hkk]
 have hsu:=Cg (fl:=x.flows) (item:=item) (p:=p) (k:=k)
 have hnext:¬(x.flows[k]!.m.kind=9∧x.flows[k]!.m.frm=0∧fK x.flows[k]!.m.parts [p]≠[])→∀ j,j<k+1→¬(x.flows[j]!.m.kind=9∧x.flows[j]!.m.frm=0∧fK x.flows[j]!.m.parts [p]≠[]):=fun h j hj=>by
  rcases bG j k with h3|h3
  ·exact hnone j h3
  ·obtain rfl:j=k:=ab
   exact h
 have hbk:x.flows[k]!.m.kind=9∧x.flows[k]!.m.frm=0∧fK x.flows[k]!.m.parts [p]≠[]→¬jB (x.flows.map FlV.m) item p:=fun h q=>q.1 ⟨_,alStd0List_mem_map_of_mem hfk,h⟩
 generalize hf:x.flows[k]! = f at *
 simp only [bF]
 repeat first|refine aa ?_|intro _|refine cG ?_
 rename_i b8 b9
 rw [hii,show ((i:Int)+1).toNat - i=1 by omega]
 refine GO.ent (L':=osl ah 3 tLot (some ⟨b9,0,none⟩) 1 [(f.m.id,0,f.m.n)]::obj b8 cq (bF f)::isl ah 3 f.pad f.m.parts::rlL b sh x (obj b3 tMv [.int .i64 frm,.int .i64 to,.int .i64 item,.int .i64 n,.slice ad ps.length c]::L)) ?_ ?_
 ·refine Ent.trans (B:=obj b9 tLot (ah (f.m.id,0,f.m.n))::obj b8 cq (bF f)::isl ah 3 f.pad f.m.parts::rlL b sh x (obj b3 tMv [.int .i64 frm,.int .i64 to,.int .i64 item,.int .i64 n,.slice ad ps.length c]::L)) (by simp only [rlL,aJ,ah,bF];exact ae) ?_
  exact Ent.f7 (enc:=ah) (sz:=3) (xs:=[(f.m.id,0,f.m.n)]) (by simp) rfl (by intro z hz;rw [List.mem_singleton.1 hz];rfl) (by simp)
 simp only [rlL,aJ]
 refine GO.ef (Ef.d7 (ob (advA ad c 3 i) 1 _ [p] (some ⟨b9,0,none⟩) 1 1 [(f.m.id,0,f.m.n)] rfl rfl ac ac) rfl) ac ?_
 rintro _ _ ⟨rfl,rfl⟩
 repeat first|((fail_if_success (with_reducible refine G.e7 11 ?_));(with_reducible apply G.seq))|refine bU ?_|intro _|refine cG ?_
 refine G.d9 (α:=Unit) (fun _=>True) (fun _=>[(0,.pointer (some ⟨b,0,none⟩)),(3,.pointer (some ⟨b3,0,none⟩)),(5,.int .i64 (i:Int)),(6,.bool (dB (gotN x.flows item p (k+1)))),(7,.int .i64 (k:Int)),(8,.pointer (some ⟨b8,0,none⟩))]) (fun _=>obj b8 cq (bF f)::isl ah 3 f.pad f.m.parts::rlL b sh x (obj b3 tMv [.int .i64 frm,.int .i64 to,.int .i64 item,.int .i64 n,.slice ad ps.length c]::L)) ?_ ?_
 ·have hnot:∀ {q:Prop},¬q→(gotP f.m item p→q)→dB (gotN x.flows item p k)=dB (gotN x.flows item p (k+1)):=fun h1 h2=>by
   have h3:gotN x.flows item p (k+1)↔gotN x.flows item p k:=⟨fun h=>(hsu.1 h).resolve_right (fun r=>h1 (h2 r)),fun h=>hsu.2 (.inl h)⟩
   by_cases h4:gotN x.flows item p k
   ·rw [aL h4,aL (h3.2 h4)]
   ·rw [aC h4,aC (fun r=>h4 (h3.1 r))]
  simp only [bF]
  by_cases g1:f.m.kind=6
  ·rw [hnot (fun q=>q g1) (fun r=>r.1)]
   repeat first|refine aa ?_|intro _|refine cG ?_
   exact ⟨(),trivial,ai,by exact ae⟩
  by_cases g2:f.m.to=0
  case neg =>
   rw [hnot g2 (fun r=>r.2.1)]
   repeat first|refine aa ?_|intro _|refine cG ?_
   exact ⟨(),trivial,ai,by exact ae⟩
  by_cases g3:f.m.item=item
  case neg =>
   rw [hnot g3 (fun r=>r.2.2.1)]
   repeat first|refine aa ?_|intro _|refine cG ?_
   exact ⟨(),trivial,ai,by exact ae⟩
  by_cases g4:fA [p] [(f.m.id,0,f.m.n)]
  case neg =>
   rw [hnot g4 (fun r=>r.2.2.2),aC g4]
   repeat first|refine aa ?_|intro _|refine cG ?_
   exact ⟨(),trivial,ai,by exact ae⟩
  rw [aL g4,aL (hsu.2 (.inr ⟨g1,g2,g3,g4⟩))]
  repeat first|refine aa ?_|intro _|refine cG ?_
  exact ⟨(),trivial,ai,by exact ae⟩
 rintro _ _
 simp only [rlL,aJ,bF]
 by_cases g1:f.m.kind=9
 case neg =>
  repeat first|refine aa ?_|intro _|refine cG ?_
  refine ⟨k+1,⟨ab,hnext (fun q=>g1 q.1)⟩,ab,?_,?_⟩
  ·rw [aM k]
   exact ai
  ·try simp only [rlL,aJ]
   exact ae
 by_cases g2:f.m.frm=0
 case neg =>
  repeat first|refine aa ?_|intro _|refine cG ?_
  refine ⟨k+1,⟨ab,hnext (fun q=>g2 q.2.1)⟩,ab,?_,?_⟩
  ·rw [aM k]
   exact ai
  ·try simp only [rlL,aJ]
   exact ae
 repeat first|refine aa ?_|intro _|refine cG ?_
 rw [hii,show ((i:Int)+1).toNat - i=1 by omega]
 refine GPW.ef (Ef.d7 (re f.pad f.m.parts.length f.pcap f.m.parts (advA ad c 3 i) 1 _ [p] rfl rfl hfm.1 (nV hpo) hfm.2) rfl) ac ?_
 rintro _ _ ⟨ad2,c2,rfl,rfl⟩
 by_cases h4:fK f.m.parts [p]=[]
 ·have h5:((fK f.m.parts [p]).length:Int)=0:=by rw [h4];rfl
  repeat first|refine aa ?_|intro _|refine cG ?_
  refine ⟨k+1,⟨ab,hnext (fun q=>q.2.2 h4)⟩,ab,?_,?_⟩
  ·rw [aM k]
   exact ai
  ·try simp only [rlL,aJ]
   exact ae
 ·have h5:0<((fK f.m.parts [p]).length:Int):=by
   have:=List.length_pos_iff.2 h4
   omega
  rw [hbad hpm (hbk ⟨g1,g2,h4⟩)]
  repeat first|refine aa ?_|intro _|refine cG ?_
  exact KX.d7 ag ae ⟨rfl,rfl⟩
end
section
open Go.V
theorem ga (x:Lot) (l:List Lot):lsum (x::l)=x.2.2+lsum l:=by
 have:=fV [x] l
 rw [gz] at this
 exact this
theorem gN:lsum ([]:List Lot)=0:=rfl
def ov (x y:Lot):Int:=if x.1=y.1 then max 0 (min (x.2.1+x.2.2) (y.2.1+y.2.2) - max x.2.1 y.2.1) else 0
theorem Et (x y:Lot):ov x y=ov y x:=by
 unfold ov
 by_cases h:x.1=y.1
 ·rw [if_pos h,if_pos h.symm];omega
 ·rw [if_neg h,if_neg (fun q=>h q.symm)]
theorem Ar (x y:Lot):0≤ov x y:=by
 unfold ov
 split<;>omega
theorem oZ {x y:Lot} (hx:LotOk x) (hy:LotOk y):ov x y=0↔apart x y:=by
 unfold LotOk at hx hy
 unfold ov apart
 split<;>omega
def OV:List Lot→Lot→Int
 | [],_=>0
 | x::l,y=>ov x y+OV l y
theorem ui:∀ (l:List Lot) (y:Lot),0≤OV l y
 | [],_=>aW _
 | x::l,y=>by
  have:=ui l y
  have:=Ar x y
  show 0≤ov x y+OV l y
  omega
theorem iw:∀ (a b:List Lot) (y:Lot),OV (a++b) y=OV a y+OV b y
 | [],b,y=>by show OV b y=0+OV b y;omega
 | x::a,b,y=>by
  have:=iw a b y
  show ov x y+OV (a++b) y=ov x y+OV a y+OV b y
  omega
theorem kf (x y:Lot):OV [x] y=ov x y:=by show ov x y+0=ov x y;omega
theorem sv:∀ {l:List Lot} {y:Lot},OV l y=0→∀ x∈l,ov x y=0
 | x::l,y,h,z,hz=>by
  have h1:=ui l y
  have h2:=Ar x y
  have h3:ov x y+OV l y=0:=h
  rcases List.mem_cons.1 hz with rfl|hz
  ·omega
  ·exact sv ab z hz
def OO (l:List Lot):List Lot→Int
 | []=>0
 | x::s=>OV l x+OO l s
theorem sw (y:Lot) (l:List Lot):∀ s,OO (y::l) s=OO [y] s+OO l s
 | []=>rfl
 | x::s=>by
  have:=sw y l s
  have e:=kf y x
  show (ov y x+OV l x)+OO (y::l) s=(OV [y] x+OO [y] s)+(OV l x+OO l s)
  omega
theorem wm:∀ s,OO [] s=0
 | []=>rfl
 | x::s=>by
  have:=wm s
  show 0+OO [] s=0
  omega
theorem CO (y:Lot):∀ s,OO [y] s=OV s y
 | []=>rfl
 | x::s=>by
  have:=CO y s
  have e:=kf y x
  have c:=Et x y
  show OV [y] x+OO [y] s=ov x y+OV s y
  omega
theorem za:∀ l s,OO l s=OO s l
 | [],s=>wm s
 | y::l,s=>by
  rw [sw,CO,za l s]
  rfl
theorem CU {x y:Lot} (hx:LotOk x) (hy:LotOk y):lsum (subS x y)=y.2.2 - ov y x:=by
 unfold LotOk at hx hy
 unfold subS ov
 by_cases hc:y.1≠x.1∨x.2.1+x.2.2≤y.2.1∨y.2.1+y.2.2≤x.2.1
 ·rw [if_pos hc,gz]
  by_cases hf:y.1=x.1
  ·rw [if_pos hf];omega
  ·rw [if_neg hf];omega
 ·have hf:y.1=x.1:=ab
  rw [if_neg hc,if_pos hf,fV]
  by_cases g1:y.2.1<x.2.1
  ·rw [if_pos g1,gz]
   by_cases g2:x.2.1+x.2.2<y.2.1+y.2.2
   ·rw [if_pos g2,gz];dsimp only;omega
   ·rw [if_neg g2,gN];dsimp only;omega
  ·rw [if_neg g1,gN]
   by_cases g2:x.2.1+x.2.2<y.2.1+y.2.2
   ·rw [if_pos g2,gz];dsimp only;omega
   ·rw [if_neg g2,gN];omega
theorem Eg {x y t:Lot} (hx:LotOk x) (hy:LotOk y) (ht:LotOk t) (h:apart x t):OV (subS x y) t=ov y t:=by
 unfold LotOk at hx hy ht
 unfold apart at h
 unfold subS
 split
 ·exact kf y t
 ·rename_i hn
  rw [iw]
  by_cases hf:x.1=t.1
  ·have hyt:y.1=t.1:=ab
   split<;>split<;>simp only [kf,OV,ov,if_pos hf,if_pos hyt]<;>omega
  ·have hyt:¬y.1=t.1:=ab
   split<;>split<;>simp only [kf,OV,ov,if_neg hf,if_neg hyt]<;>omega
theorem pV {x:Lot} (hx:LotOk x):∀ {l:List Lot},(∀ y∈l,LotOk y)→lsum (subL l x)=lsum l - OV l x
 | [],_=>rfl
 | y::l,h=>by
  have e:subL (y::l) x=subS x y++subL l x:=bR
  have ih:=pV hx (l:=l) (fun z hz=>h z (ao _ hz))
  have h1:=CU hx (h y ap)
  rw [e,fV,ga,ih,h1]
  show _=y.2.2+lsum l - (ov y x+OV l x)
  omega
theorem yC {x t:Lot} (hx:LotOk x) (ht:LotOk t) (ha:apart x t):∀ {l:List Lot},(∀ y∈l,LotOk y)→OV (subL l x) t=OV l t
 | [],_=>rfl
 | y::l,h=>by
  have e:subL (y::l) x=subS x y++subL l x:=bR
  have ih:=yC hx ht ha (l:=l) (fun z hz=>h z (ao _ hz))
  rw [e,iw,ih,Eg hx (h y ap) ht ha]
  rfl
theorem yS:∀ {set l:List Lot},(∀ x∈set,LotOk x)→(∀ y∈l,LotOk y)→Apart set→lsum (set.foldl subL l)=lsum l - OO l set
 | [],l,_,_,_=>by show lsum l=lsum l - 0;omega
 | x::set,l,hs,hl,ha=>by
  obtain ⟨a1,a2⟩:=List.pairwise_cons.1 ha
  have hx:=hs x ap
  have hs2:∀ z∈set,LotOk z:=fun z hz=>hs z (ao _ hz)
  have ih:=yS (set:=set) (l:=subL l x) hs2 (oU hx hl) a2
  have hoo:∀ {s:List Lot},(∀ z∈s,LotOk z)→(∀ z∈s,apart x z)→OO (subL l x) s=OO l s:=fun {s}=>by
   induction s with
   | nil=>intro _ _;rfl
   | cons z s ih2 =>
    intro g1 g2
    have h1:=yC hx (g1 z ap) (g2 z ap) hl
    have h2:=ih2 (fun q hq=>g1 q (ao _ hq)) (fun q hq=>g2 q (ao _ hq))
    show OV (subL l x) z+OO (subL l x) s=OV l z+OO l s
    omega
  have h3:=pV hx hl
  have h4:=hoo hs2 a1
  show lsum (set.foldl subL (subL l x))=lsum l - (OV l x+OO l set)
  omega
theorem sP:∀ (r out:List Lot),lsum (r.foldl aR out)=lsum out+lsum r
 | [],out=>by show lsum out=lsum out+0;omega
 | x::r,out=>by
  have:=sP r (aR out x)
  rw [nq] at this
  rw [ga]
  show lsum (r.foldl aR (aR out x))=_
  omega
theorem un {set:List Lot} (hs:∀ x∈set,LotOk x) (ha:Apart set):∀ {s out:List Lot},(∀ y∈s,LotOk y)→lsum (s.foldl (fun out y=>(eX set y).foldl aR out) out)=lsum out+lsum s - OO s set
 | [],out,_=>by rw [wm];show lsum out=lsum out+0 - 0;omega
 | y::s,out,h=>by
  have hy:=h y ap
  have ih:=un hs ha (s:=s) (out:=(eX set y).foldl aR out) (fun z hz=>h z (ao _ hz))
  have h1:lsum (eX set y)=lsum [y] - OO [y] set:=yS hs (fun z hz=>by rw [List.mem_singleton.1 hz];exact hy) ha
  rw [gz] at h1
  rw [sP,h1] at ih
  rw [ga,sw]
  show lsum (s.foldl _ ((eX set y).foldl aR out))=_
  omega
theorem lN {s set:List Lot} (h:∀ y∈s,LotOk y) (hs:∀ x∈set,LotOk x) (ha:Apart set):lsum (dN s set)=lsum s - OO s set:=by
 have:=un hs ha (s:=s) (out:=[]) h
 rw [gN] at this
 unfold dN
 omega
def sl (x y:Lot):Prop:=x.1<y.1∨(x.1=y.1∧x.2.1+x.2.2<y.2.1)
structure MrgI (l:Lot) (z:List Lot×List Lot×Int×Int) (r:List Lot):Prop where
 lo:0≤z.2.2.1∧z.2.2.1≤l.2.1
 hi:l.2.1+l.2.2≤z.2.2.2
 hiC:z.2.2.2=l.2.1+l.2.2∨∀ x∈r,x.1=l.1→z.2.2.2<x.2.1
 loC:z.2.2.1=l.2.1∨∀ x∈r,x.1=l.1→l.2.1<x.2.1
 s1:(z.1++r).Pairwise sl
 s2:(z.2.1++r).Pairwise sl
 s3:∀ y∈z.1,y.1<l.1∨(y.1=l.1∧y.2.1+y.2.2<z.2.2.1)
 s4:∀ y∈z.2.1,(l.1<y.1∨(y.1=l.1∧z.2.2.2<y.2.1))∧1≤y.2.2
def zsum (z:List Lot×List Lot×Int×Int):Int:=lsum z.1+lsum z.2.1+(z.2.2.2 - z.2.2.1)
def zov (f:Int) (z:List Lot×List Lot×Int×Int) (t:Lot):Int:=OV z.1 t+OV z.2.1 t+ov (f,z.2.2.1,z.2.2.2 - z.2.2.1) t
theorem Di {l:Lot} {z:List Lot×List Lot×Int×Int} {x:Lot} {r:List Lot} (hl:LotOk l) (hx:LotOk x) (h:MrgI l z (x::r)):MrgI l (insS l.1 z x) r∧zsum (insS l.1 z x)=zsum z+x.2.2 - ov x l∧(ov x l=0→∀ t,LotOk t→zov l.1 (insS l.1 z x) t=zov l.1 z t+ov x t):=by
 obtain ⟨⟨b0,b1⟩,b2,b3,b4,s1,s2,s3,s4⟩:=h
 have hxl:x∈x::r:=ap
 have hr:∀ {y},y∈r→y∈x::r:=fun hy=>ao _ hy
 have hxr:∀ y∈r,sl x y:=(List.pairwise_cons.1 (List.pairwise_append.1 s1).2.1).1
 have h1x:∀ y∈z.1,sl y x:=fun y hy=>(List.pairwise_append.1 s1).2.2 y hy x hxl
 have h2x:∀ y∈z.2.1,sl y x:=fun y hy=>(List.pairwise_append.1 s2).2.2 y hy x hxl
 have hl2:=hl
 have hx2:=hx
 unfold LotOk at hl2 hx2
 have sub1:(z.1++r).Pairwise sl:=s1.sublist (List.Sublist.append_left (List.sublist_cons_self x r) _)
 have sub2:(z.2.1++r).Pairwise sl:=s2.sublist (List.Sublist.append_left (List.sublist_cons_self x r) _)
 unfold insS
 by_cases c1:x.1<l.1∨(x.1=l.1∧x.2.1+x.2.2<z.2.2.1)
 ·rw [if_pos c1]
  have e0:ov x l=0:=by unfold ov;split<;>omega
  refine ⟨⟨⟨b0,b1⟩,b2,b3.imp id (fun q y hy=>q y (hr hy)),b4.imp id (fun q y hy=>q y (hr hy)),?_,sub2,?_,s4⟩,?_,fun _ t _=>?_⟩
  ·rw [az];exact s1
  ·intro y hy
   rcases List.mem_append.1 hy with hy|hy
   ·exact s3 y hy
   ·rw [List.mem_singleton.1 hy];exact c1
  ·rw [e0]
   unfold zsum
   dsimp only
   rw [fV,gz]
   omega
  ·unfold zov
   dsimp only
   rw [iw,kf]
   omega
 rw [if_neg c1]
 by_cases c2:l.1<x.1∨z.2.2.2<x.2.1
 ·rw [if_pos c2]
  have e0:ov x l=0:=by unfold ov;split<;>omega
  refine ⟨⟨⟨b0,b1⟩,b2,b3.imp id (fun q y hy=>q y (hr hy)),b4.imp id (fun q y hy=>q y (hr hy)),sub1,?_,s3,?_⟩,?_,fun _ t _=>?_⟩
  ·rw [az];exact s2
  ·intro y hy
   rcases List.mem_append.1 hy with hy|hy
   ·exact s4 y hy
   ·rw [List.mem_singleton.1 hy];dsimp only;omega
  ·rw [e0]
   unfold zsum
   dsimp only
   rw [fV,gz]
   omega
  ·unfold zov
   dsimp only
   rw [iw,kf]
   omega
 rw [if_neg c2]
 have hf:x.1=l.1:=ab
 have hhi:z.2.2.2=l.2.1+l.2.2:=by
  rcases b3 with q|q
  ·exact q
  ·have:=q x hxl hf
   omega
 have hlo:z.2.2.1=l.2.1∨l.2.1<x.2.1:=b4.imp id (fun q=>q x hxl hf)
 refine ⟨⟨⟨by dsimp only;omega,by dsimp only;omega⟩,by dsimp only;omega,?_,?_,sub1,sub2,?_,?_⟩,?_,fun e0 t ht=>?_⟩
 ·dsimp only
  by_cases q:x.2.1+x.2.2≤l.2.1+l.2.2
  ·left;omega
  ·right
   intro y hy hyf
   have:=hxr y hy
   unfold sl at this
   omega
 ·dsimp only
  by_cases q:z.2.2.1≤x.2.1
  ·rcases b4 with g|g
   ·left;omega
   ·right
    intro y hy hyf
    exact g y (hr hy) hyf
  ·right
   intro y hy hyf
   have:=hxr y hy
   unfold sl at this
   omega
 ·intro y hy
  have g1:=s3 y hy
  have g2:=h1x y hy
  unfold sl at g2
  dsimp only
  omega
 ·intro y hy
  exfalso
  have g1:=s4 y hy
  have g2:=h2x y hy
  unfold sl at g2
  omega
 ·unfold zsum ov
  rw [if_pos hf]
  dsimp only
  omega
 ·unfold ov at e0
  rw [if_pos hf] at e0
  unfold zov
  dsimp only
  have key:ov (l.1,min z.2.2.1 x.2.1,max z.2.2.2 (x.2.1+x.2.2) - min z.2.2.1 x.2.1) t=ov (l.1,z.2.2.1,z.2.2.2 - z.2.2.1) t+ov x t:=by
   unfold LotOk at ht
   unfold ov
   dsimp only
   by_cases g:l.1=t.1
   ·rw [if_pos g,if_pos g,if_pos (hf.trans g)]
    omega
   ·rw [if_neg g,if_neg g,if_neg (fun q=>g (hf▸q))]
    omega
  omega
theorem sa {l:Lot} (hl:LotOk l):∀ {r:List Lot} {z:List Lot×List Lot×Int×Int},(∀ x∈r,LotOk x)→MrgI l z r→MrgI l (r.foldl (insS l.1) z) []∧zsum (r.foldl (insS l.1) z)=zsum z+lsum r - OV r l∧(OV r l=0→∀ t,LotOk t→zov l.1 (r.foldl (insS l.1) z) t=zov l.1 z t+OV r t)
 | [],z,_,h=>⟨h,by show zsum z=zsum z+0 - 0;omega,fun _ t _=>by show zov l.1 z t=zov l.1 z t+0;omega⟩
 | x::r,z,hr,h=>by
  obtain ⟨h1,h2,h3⟩:=Di hl (hr x ap) h
  obtain ⟨i1,i2,i3⟩:=sa hl (r:=r) (z:=insS l.1 z x) (fun y hy=>hr y (ao _ hy)) h1
  have e:OV (x::r) l=ov x l+OV r l:=rfl
  have n1:=Ar x l
  have n2:=ui r l
  refine ⟨i1,?_,fun q t ht=>?_⟩
  ·show zsum (r.foldl (insS l.1) (insS l.1 z x))=_
   rw [ga]
   omega
  ·have g1:=h3 ab t ht
   have g2:=i3 ab t ht
   show zov l.1 (r.foldl (insS l.1) (insS l.1 z x)) t=zov l.1 z t+(ov x t+OV r t)
   omega
theorem Do {l:Lot} {s:List Lot} (hl:LotOk l) (hs:∀ x∈s,LotOk x) (hp:s.Pairwise sl):(insL s l).Pairwise sl∧lsum (insL s l)=lsum s+l.2.2 - OV s l∧(OV s l=0→∀ t,LotOk t→OV (insL s l) t=OV s t+ov l t):=by
 have hl2:=hl
 unfold LotOk at hl2
 obtain ⟨⟨_,_,_,_,_,_,s3,s4⟩,h2,h3⟩:=sa hl (r:=s) (z:=([],[],l.2.1,l.2.1+l.2.2)) hs ⟨⟨hl2.2.1,aW _⟩,aW _,.inl rfl,.inl rfl,hp,hp,(fun _ h=>by cases h),(fun _ h=>by cases h)⟩
 have hm:=sa hl (r:=s) (z:=([],[],l.2.1,l.2.1+l.2.2)) hs ⟨⟨hl2.2.1,aW _⟩,aW _,.inl rfl,.inl rfl,hp,hp,(fun _ h=>by cases h),(fun _ h=>by cases h)⟩
 have p1:=hm.1.s1
 have p2:=hm.1.s2
 have q1:=hm.1.lo
 have q2:=hm.1.hi
 rw [aV] at p1 p2
 have e:s.foldl (insS l.1) ([],[],l.2.1,l.2.1+l.2.2)=insG s l:=rfl
 rw [e] at s3 s4 h2 h3 p1 p2 q1 q2
 clear hm
 have z0:zsum ([],[],l.2.1,l.2.1+l.2.2)=l.2.2:=by unfold zsum;dsimp only;rw [gN];omega
 unfold insL
 generalize insG s l=z at *
 refine ⟨?_,?_,fun q t ht=>?_⟩
 ·refine List.pairwise_append.2 ⟨List.pairwise_append.2 ⟨p1,cB _ _,fun y hy w hw=>?_⟩,p2,fun y hy w hw=>?_⟩
  ·rw [List.mem_singleton.1 hw]
   have:=s3 y hy
   unfold sl
   dsimp only
   omega
  ·have g2:=s4 w hw
   rcases List.mem_append.1 hy with hy|hy
   ·have g1:=s3 y hy
    unfold sl
    omega
   ·rw [List.mem_singleton.1 hy]
    unfold sl
    dsimp only
    omega
 ·rw [fV,fV,gz]
  rw [z0] at h2
  unfold zsum at h2
  dsimp only
  omega
 ·have g:=h3 q t ht
  have e0:zov l.1 ([],[],l.2.1,l.2.1+l.2.2) t=ov l t:=by
   unfold zov
   dsimp only
   have:l.2.1+l.2.2 - l.2.1=l.2.2:=ab
   rw [this]
   show 0+0+ov (l.1,l.2.1,l.2.2) t=ov l t
   rw [show (l.1,l.2.1,l.2.2)=l from rfl]
   omega
  rw [e0] at g
  unfold zov at g
  rw [iw,iw,kf]
  omega
theorem kl {ps:List Lot} (h:∀ x∈ps,LotOk x):∀ i,i≤ps.length→(setL (ps.take i)).Pairwise sl∧lsum (setL (ps.take i))≤lsum (ps.take i)∧(lsum (setL (ps.take i))=lsum (ps.take i)→Apart (ps.take i)∧∀ t,LotOk t→OV (setL (ps.take i)) t=OV (ps.take i) t)∧(Apart (ps.take i)→lsum (setL (ps.take i))=lsum (ps.take i))
 | 0,_=>⟨List.Pairwise.nil,aW _,fun _=>⟨List.Pairwise.nil,fun _ _=>rfl⟩,fun _=>rfl⟩
 | i+1,hi=>by
  obtain ⟨h1,h2,h3,h4⟩:=kl h i ab
  have hlt:i<ps.length:=ab
  have hx:=h _ (aG hlt)
  have hst:=(lP h i ab).2
  have e:setL (ps.take (i+1))=insL (setL (ps.take i)) ps[i]!:=gB insL [] hlt
  have et:ps.take (i+1)=ps.take i++[ps[i]!]:=by rw [ay hlt,getElem!_of hlt]
  have hls:lsum (ps.take (i+1))=lsum (ps.take i)+ps[i]!.2.2:=dI ps hlt
  have hti:∀ x∈ps.take i,LotOk x:=fun x hq=>h x (dJ hq)
  obtain ⟨g1,g2,g3⟩:=Do hx hst h1
  have nn:=ui (setL (ps.take i)) ps[i]!
  rw [e,hls]
  refine ⟨g1,ab,fun q=>?_,fun q=>?_⟩
  ·obtain ⟨a1,a2⟩:=h3 ab
   have z:OV (setL (ps.take i)) ps[i]! = 0:=ab
   rw [et]
   refine ⟨List.pairwise_append.2 ⟨a1,cB _ _,fun y hy w hw=>?_⟩,fun t ht=>?_⟩
   ·rw [List.mem_singleton.1 hw]
    rw [a2 _ hx] at z
    exact (oZ (hti y hy) hx).1 (sv z y hy)
   ·rw [g3 z t ht,a2 t ht,iw,kf]
  ·rw [et] at q
   obtain ⟨q1,_,q3⟩:=List.pairwise_append.1 q
   have h5:=h4 q1
   have h6:=(h3 h5).2 _ hx
   have z:∀ {l:List Lot},(∀ y∈l,LotOk y)→(∀ y∈l,apart y ps[i]!)→OV l ps[i]! = 0:=fun {l}=>by
    induction l with
    | nil=>intro _ _;rfl
    | cons y l ih =>
     intro w1 w2
     have e1:=(oZ (w1 y ap) hx).2 (w2 y ap)
     have e2:=ih (fun q hq=>w1 q (ao _ hq)) (fun q hq=>w2 q (ao _ hq))
     show ov y ps[i]! + OV l ps[i]! = 0
     omega
   have h7:=z hti (fun y hy=>q3 y hy _ (List.mem_singleton_self _))
   omega
theorem lw {ps:List Lot} (h:∀ x∈ps,LotOk x):lsum (setL ps)=lsum ps↔Apart ps:=by
 obtain ⟨_,_,h3,h4⟩:=kl h ps.length (aw _)
 rw [aZ] at h3 h4
 exact ⟨fun q=>(h3 q).1,h4⟩
theorem CY {s:List Lot} (h:s.Pairwise sl):Apart s:=h.imp (fun {a b} q=>by unfold sl at q;unfold apart;omega)
theorem uj {a b:List Lot}:∀ {s:List Lot},(∀ t∈s,OV a t=OV b t)→OO a s=OO b s
 | [],_=>rfl
 | x::s,h=>by
  have h1:=h x ap
  have h2:=uj (s:=s) (fun t ht=>h t (ao _ ht))
  show OV a x+OO a s=OV b x+OO b s
  omega
theorem zc {ps own:List Lot} (hw:fA ps own) (ha:Apart own) (hd:lsum (setL ps)=lsum ps):lsum (dN own ps)=lsum own - lsum ps:=by
 obtain ⟨⟨h1,_⟩,⟨h2,_⟩,h3⟩:=hw
 have hs:=kj h1
 have e1:lsum (fh ps own)=lsum (setL ps) - OO (setL ps) own:=lN hs.2 h2 ha
 rw [h3,gN] at e1
 have hap:=(lw h1).1 hd
 have e2:=lN h2 h1 hap
 obtain ⟨_,_,g3,_⟩:=kl h1 ps.length (aw _)
 rw [aZ] at g3
 have e3:OO (setL ps) own=OO ps own:=uj (fun t ht=>(g3 hd).2 t (h2 t ht))
 rw [za own ps] at e2
 omega
end
end Go.Proofs.YtommnllbflbdmaaGreatDoor
