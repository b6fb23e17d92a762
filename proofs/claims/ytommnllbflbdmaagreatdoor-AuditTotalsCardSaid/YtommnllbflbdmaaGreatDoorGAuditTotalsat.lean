/- Lemmas and contracts of functions. -/
import Derived.Test.YtommnllbflbdmaaGreatDoorGAuditTotalsas
import Derived.Test.YtommnllbflbdmaaGreatDoorGAuditTotalsaq
set_option linter.all false
set_option maxHeartbeats 4000000
namespace Go.Proofs.YtommnllbflbdmaaGreatDoor
section
open Go.V
attribute [local irreducible] G GO GP GPW GPK Ev Ef EfR Ent CB GB V.Enters
theorem sf {α β:Type} {e1:α→List Value} {e2:β→List Value} {s1 s2:Nat} {a1 a2:Option Addr} {x1:List α} {x2:List β}:∀ ι h,Stars [isl e1 s1 a1 x1,isl e2 s2 a2 x2] ι h→Stars [isl e1 s1 a1 x1,isl e2 s2 a2 x2] ι Hp.emp:=by
 rintro ι h ⟨ι₀,h₁,h₂,a,b,c,d,e,ι₁,h₃,h₄,a',b',c',d',e',f'⟩
 exact ⟨ι₀,Hp.emp,Hp.emp,a,Hp.d8 _,Hp.d7 _,Hp.d7 _,e,ι₁,Hp.emp,Hp.emp,a',Hp.d8 _,Hp.d7 _,Hp.d7 _,e',trivial⟩
def wts (l:List Lot):List Int:=l.map (fun x=>x.2.2)
theorem rK (l:List Lot):(wts l).length=l.length:=by simp [wts]
theorem mB {l:List Lot} {k:Nat} (h:k<l.length):(wts l)[k]! = l[k]!.2.2:=ez _ h
theorem iM {l:List Lot} {n:Int} (hl:∀ x∈l,LotOk x) (h0:0≤n) (h1:n≤lsum l) {k:Nat} (hk:k<l.length):0≤shQ l n k∧shQ l n k≤l[k]!.2.2:=by
 have hs:=jf hl hk
 have hw:=hl _ (aG hk)
 unfold LotOk at hw
 refine ⟨iu (da h0 ab) ab,?_⟩
 unfold shQ
 refine Int.ediv_le_of_le_mul hs ?_
 rw [Int.mul_comm]
 exact Int.mul_le_mul_of_nonneg_left h1 ab
theorem tF {L:List HP} (n w s:Int) (h0:0≤n) (h1:n≤1099511627776) (h2:0≤w) (h3:w≤1152921504606846976) (h4:0<s) (h5:s≤1152921504606846976) (hq:n*w / s≤1099511627776) :
  Tri Tryz.prog 322 #[.int .i64 n,.int .i64 w,.int .i64 s] L (fun v L'=>v=.tuple #[.int .u64 (n*w / s),.int .u64 (n*w % s),.int .i64 0]∧L' = L):=by
 obtain ⟨nN,rfl⟩:∃ nN:Nat,n=(nN:Int):=⟨n.toNat,ab⟩
 obtain ⟨wN,rfl⟩:∃ wN:Nat,w=(wN:Int):=⟨w.toNat,ab⟩
 obtain ⟨sN,rfl⟩:∃ sN:Nat,s=(sN:Int):=⟨s.toNat,ab⟩
 have e1:(nN:Int)*(wN:Int) / (sN:Int)=((nN*wN / sN:Nat):Int):=by rw [Int.natCast_ediv,fk]
 have e2:(nN:Int)*(wN:Int) % (sN:Int)=((nN*wN % sN:Nat):Int):=by rw [Int.natCast_emod,fk]
 rw [e1] at hq
 rw [e1,e2]
 exact uC nN wN sN ab ab ab ab ab
theorem uA {E cap:Nat} {ad:Option Addr} {α:Type} [Inhabited α] {enc:α→Value} (h1:OneCell enc) {xs:List α} {Lc:List HP} {g:Nat} {cb:Array Value} (cf:α→α→Int) (hO:Go.Sort.SWO (ltOf cf)) (heg:V.Enters Tryz.prog g) (hpers:∀ ι h,Stars Lc ι h→Stars Lc ι Hp.emp) (hcmp:∀ x y:α,Tri Tryz.prog g (#[enc x,enc y]++cb) Lc (fun u _=>u=.int .i64 (cf x y))) (hsz:xs.length<4611686018427387904) :
  Tri Tryz.prog 323 #[.slice ad xs.length cap,.func (.func g) #[] cb] (osl (fun x=>[enc x]) 1 E ad cap xs::Lc) (fun v L'=>v=.tuple #[]∧∃ ys,fM cf xs ys∧L' = osl (fun x=>[enc x]) 1 E ad cap ys::Lc) :=
 Tri.d9 (ρ:=Tryz.zr8) Tryz.zs7 { Tryz.zs7 with } h1 cf hO FC heg hpers hcmp hsz
theorem oE (n:Nat):(List.finRange n).map (fun i=>i.val)=List.range n:=by
 apply dh
 ·simp
 ·intro i h1 h2;simp
theorem fZ {f:Nat→Int} {n k:Nat} (h:k<n):((List.range n).map f)[k]! = f k:=by
 rw [getElem!_of (by simpa using h)]
 simp
def tY (R:Nat→Int) (n:Nat) (i j:Fin n):Int:=shCf ((List.range n).map R) i.val j.val
theorem mW (R:Nat→Int) (n:Nat) (i j:Fin n):tY R n i j<0↔R j.val<R i.val∨(R j.val=R i.val∧i.val<j.val):=by
 unfold tY
 rw [En,fZ i.isLt,fZ j.isLt]
theorem Bn (R:Nat→Int) (n:Nat):Go.Sort.SWO (ltOf (tY R n)) where
 irrefl x:=by simp only [ltOf,decide_eq_false_iff_not];rw [mW];omega
 trans x y z h1 h2:=by simp only [ltOf,decide_eq_true_eq] at *;rw [mW] at *;omega
 ntrans x y z h1 h2:=by simp only [ltOf,decide_eq_false_iff_not] at *;rw [mW] at *;omega
abbrev tU64:Nat:=238
abbrev zl:Nat:=352
abbrev uT:List Stp:=[.ev 0,.ev 1,.ev 2,.ev 3,.ev 4,.ev 5,.ev 6,.ev 7,.ev 8,.ev 9,.ev 10,.ef 11,.ev 12,.ef 13,.ev 14,.ef 15]
theorem co {φ ψ:Prop} (k:ψ) (h:Hid ψ→φ:=by intro k;(with_reducible apply G.d8);first|refine G.d7 (N:=100) (id:=23) uT mixed an (Hid.out k)):φ:=h ⟨k⟩
theorem zn {L:List HP} (ad:Option Addr) (c:Nat) (l:List Lot) (n:Int) [hrd:Rds L ad Int (encZ .i64) 1 (wts l)] (hll:l.length≤4096) (hl:∀ x∈l,LotOk x) (hne:l≠[]) (h0:0≤n) (h1:n≤lsum l) (h2:n≤1099511627776) :
  Tri Tryz.prog 300 #[.int .i64 n,.slice ad l.length c] L (fun v L'=>∃ ad' cap',v=.tuple #[.slice ad' l.length cap',.int .i64 0]∧L' = osl (encZ .i64) 1 tInt ad' cap' ((List.range l.length).map (shC l n))::L):=by
 have hlen:0<l.length:=List.length_pos_iff.2 hne
 have hwl:=rK l
 have hs:=jf hl hlen
 have hsb:=fX hl l.length (aw _)
 rw [gi] at hsb
 have hm:(l.length:Int)*1099511627776≤4096*1099511627776:=bH ab ac
 refine Tri.body (args:=[.int .i64 n,.slice ad l.length c]) 100 FM Tryz.func300 rfl rfl rfl (by simp) ?_
 repeat first|refine aa ?_|intro _|refine co ?_
 refine GO.ef (Ef.d7 (kT n) rfl) ac ?_
 rintro _ L ⟨rfl,rfl⟩
 rw [aL (show jr n from ⟨h0,h2⟩)]
 repeat first|((fail_if_success (with_reducible refine G.e7 4 ?_));(with_reducible apply G.seq))|refine bU ?_|intro _|refine co ?_
 refine G.d9 (α:=Unit) (fun _=>True) (fun _=>[(0,.int .i64 n),(1,.slice ad l.length c),(6,.int .i64 (lsum l))]) (fun _=>L) ?_ ?_
 ·repeat first|refine aa ?_|intro _|refine co ?_
  refine G.loop (α:=Nat) (fun i=>i≤l.length) (fun i=>[(0,.int .i64 n),(1,.slice ad l.length c),(6,.int .i64 (lsum (l.take i))),(21,.slice ad l.length c),(22,.int .i64 l.length),(23,.int .i64 (i:Int))]) (fun _=>L) (fun i=>l.length - i) 0 (al _) ai (Ent.refl _) ?_
  intro i hi
  by_cases hlt:i<l.length
  case neg =>
   have hin:i=l.length:=ab
   subst hin
   rw [gi]
   repeat first|refine aa ?_|intro _|refine co ?_
   exact ⟨(),trivial,ai,Ent.refl _⟩
  have hii:(i:Int).toNat=i:=ab
  have hok:=hl _ (aG hlt)
  unfold LotOk at hok
  have hb1:=fX hl i ab
  have hb2:=dI l hlt
  have hm2:(i:Int)*1099511627776≤4096*1099511627776:=bH ab ac
  repeat first|refine aa ?_|intro _|refine co ?_
  rw [hii,mB hlt]
  refine GO.ef (Ef.d7 (kT l[i]!.2.2) rfl) ac ?_
  rintro _ L ⟨rfl,rfl⟩
  rw [aL (show jr l[i]!.2.2 from ⟨ab,ab⟩)]
  repeat first|refine aa ?_|intro _|refine co ?_
  refine ⟨i+1,ab,ab,?_,Ent.refl _⟩
  rw [hb2,aM i]
  exact ai
 rintro _ _
 repeat first|refine aa ?_|intro _|refine co ?_
 refine GO.ef (Ef.makeSlice (encZ .i64) 0 rfl rfl rfl ab ab ab) ac ?_
 rintro _ _ ⟨bp,rfl,rfl⟩
 rw [av,← jp l.length (shQ l n)]
 repeat first|refine aa ?_|intro _|refine co ?_
 refine GO.ef (Ef.makeSlice (encZ .u64) 0 rfl rfl rfl ab ab ab) ac ?_
 rintro _ _ ⟨br,rfl,rfl⟩
 rw [av,← jp l.length (shR l n)]
 repeat first|refine aa ?_|intro _|refine co ?_
 rename_i bv
 refine GO.ef (Ef.makeSlice (encZ .i64) 0 rfl rfl rfl ab ab ab) ac ?_
 rintro _ _ ⟨bo,rfl,rfl⟩
 rw [av,← jp l.length (fun k:Nat=>(k:Int))]
 repeat first|((fail_if_success (with_reducible refine G.e7 19 ?_));(with_reducible apply G.seq))|refine bU ?_|intro _|refine co ?_
 refine G.d9 (α:=Unit) (fun _=>True) (fun _=>[(9,.slice (some ⟨bp,0,none⟩) l.length l.length),(10,.pointer (some ⟨bv,0,none⟩)),(11,.slice (some ⟨bo,0,none⟩) l.length l.length),(12,.int .i64 (eU l n))])
  (fun _=>osl (encZ .i64) 1 tInt (some ⟨bp,0,none⟩) l.length ((List.range l.length).map (shQ l n))::obj bv zl [.slice (some ⟨br,0,none⟩) l.length l.length]::osl (encZ .u64) 1 tU64 (some ⟨br,0,none⟩) l.length ((List.range l.length).map (shR l n))::osl (encZ .i64) 1 tInt (some ⟨bo,0,none⟩) l.length ((List.range l.length).map (fun k:Nat=>(k:Int)))::L) ?_ ?_
 ·repeat first|refine aa ?_|intro _|refine co ?_
  refine G.loop (α:=Nat) (fun i=>i≤l.length) (fun i=>[(0,.int .i64 n),(1,.slice ad l.length c),(6,.int .i64 (lsum l)),(9,.slice (some ⟨bp,0,none⟩) l.length l.length),(10,.pointer (some ⟨bv,0,none⟩)),(11,.slice (some ⟨bo,0,none⟩) l.length l.length),(12,.int .i64 (n - cF i (shQ l n))),(49,.int .i64 l.length),(50,.int .i64 (i:Int))])
   (fun i=>osl (encZ .i64) 1 tInt (some ⟨bp,0,none⟩) l.length (fq l.length i (shQ l n))::obj bv zl [.slice (some ⟨br,0,none⟩) l.length l.length]::osl (encZ .u64) 1 tU64 (some ⟨br,0,none⟩) l.length (fq l.length i (shR l n))::osl (encZ .i64) 1 tInt (some ⟨bo,0,none⟩) l.length (fq l.length i (fun k:Nat=>(k:Int)))::L) (fun i=>l.length - i) 0 (al _) ?_ ae ?_
  ·rw [jl,eJ]
   exact ai
  intro i hi
  have hf1:=ji l.length i (shQ l n)
  have hf2:=ji l.length i (shR l n)
  have hf3:=ji l.length i (fun k:Nat=>(k:Int))
  by_cases hlt:i<l.length
  case neg =>
   have hin:i=l.length:=ab
   subst hin
   rw [jR,jR,jR,← jK]
   repeat first|refine aa ?_|intro _|refine co ?_
   exact ⟨(),trivial,ai,by exact ae⟩
  have hii:(i:Int).toNat=i:=ab
  have hok:=hl _ (aG hlt)
  unfold LotOk at hok
  have hsq:0≤cF i (shQ l n)∧cF i (shQ l n)≤lsum (l.take i):=by
   rw [show lsum (l.take i)=cF i (fun k=>l[k]!.2.2) by unfold cF;rw [kZ l i hi]]
   refine ⟨?_,ki (fun k hk=>(iM hl h0 h1 ab).2)⟩
   have:=ki (n:=i) (f:=fun _=>0) (g:=shQ l n) (fun k hk=>(iM hl h0 h1 ab).1)
   rw [mh] at this
   omega
  have hb1:=fX hl i ab
  have hm2:(i:Int)*1099511627776≤4096*1099511627776:=bH ab ac
  have hss:=dH i (shQ l n)
  obtain ⟨q1,q2⟩:=iM hl h0 h1 hlt
  have hr0:0≤shR l n i:=cN _ ab
  have hr1:shR l n i<lsum l:=cX _ hs
  repeat first|refine aa ?_|intro _|refine co ?_
  rw [hii,mB hlt]
  refine GO.ef (Ef.d7 (tF n l[i]!.2.2 (lsum l) h0 h2 ab ab hs ab (by have:=q2;unfold shQ at this;omega)) rfl) ac ?_
  rintro _ _ ⟨rfl,rfl⟩
  rw [show n*l[i]!.2.2 / lsum l=shQ l n i from rfl,show n*l[i]!.2.2 % lsum l=shR l n i from rfl]
  repeat first|refine aa ?_|intro _|refine co ?_
  have h3:(fq l.length i (fun k:Nat=>(k:Int))).set i (i:Int)=fq l.length (i+1) (fun k:Nat=>(k:Int)):=jQ _ hlt
  rw [hii,jQ (shQ l n) hlt,jQ (shR l n) hlt,h3]
  refine ⟨i+1,ab,ab,?_,by exact ae⟩
  rw [hss,show n - (cF i (shQ l n)+shQ l n i)=n - cF i (shQ l n) - shQ l n i by omega,aM i]
  exact ai
 rintro _ _
 obtain ⟨hl1,hl2⟩:=kH (n:=n) hl hne
 haveI:Inhabited (Fin l.length):=⟨⟨0,hlen⟩⟩
 have hrl:((List.range l.length).map (shR l n)).length=l.length:=by simp
 have hol:(List.range l.length).map (fun k:Nat=>(k:Int))=(List.finRange l.length).map (fun i:Fin l.length=>(i.val:Int)):=by
  rw [← oE,List.map_map]
  rfl
 have hfl:(List.finRange l.length).length=l.length:=by simp
 rw [hol]
 refine G.ent (L':=osl (fun x:Fin l.length=>[Value.int .i64 (x.val:Int)]) 1 tInt (some ⟨bo,0,none⟩) l.length (List.finRange l.length)::isl ph 1 (some ⟨bv,0,none⟩) [⟨some ⟨br,0,none⟩,((List.range l.length).map (shR l n)).length,l.length⟩]::isl (encZ .u64) 1 (some ⟨br,0,none⟩) ((List.range l.length).map (shR l n))::osl (encZ .i64) 1 tInt (some ⟨bp,0,none⟩) l.length ((List.range l.length).map (shQ l n))::L) ?_ ?_
 ·refine (Ent.frz (some ⟨br,0,none⟩)).trans ?_
  refine (Ent.at (A:=obj bv zl [.slice (some ⟨br,0,none⟩) l.length l.length]) (Ent.f7 (enc:=ph) (sz:=1) (xs:=[⟨some ⟨br,0,none⟩,((List.range l.length).map (shR l n)).length,l.length⟩]) (by rw [hrl];rfl) rfl (fun _ _=>rfl) (by simp))).trans ?_
  refine (Ent.frz (some ⟨bv,0,none⟩)).trans ?_
  refine (Ent.at (A:=osl (encZ .i64) 1 tInt (some ⟨bo,0,none⟩) l.length ((List.finRange l.length).map (fun i:Fin l.length=>(i.val:Int)))) (Ent.n7 (f:=fun i:Fin l.length=>(i.val:Int)) (enc:=encZ .i64))).trans ?_
  show Ent (osl (fun x:Fin l.length=>[Value.int .i64 (x.val:Int)]) 1 tInt (some ⟨bo,0,none⟩) l.length (List.finRange l.length)::_) _
  exact ae
 repeat first|refine aa ?_|intro _|refine co ?_
 have hsort:=uA (E:=tInt) (cap:=(List.finRange l.length).length) (ad:=some ⟨bo,0,none⟩) (enc:=fun i:Fin l.length=>Value.int .i64 (i.val:Int)) (by intro x;rfl) (xs:=List.finRange l.length) (Lc:=[isl ph 1 (some ⟨bv,0,none⟩) [⟨some ⟨br,0,none⟩,((List.range l.length).map (shR l n)).length,l.length⟩],isl (encZ .u64) 1 (some ⟨br,0,none⟩) ((List.range l.length).map (shR l n))]) (g:=324) (cb:=#[.pointer (some ⟨bv,0,none⟩)]) (tY (shR l n) l.length) (Bn _ _) DN sf (fun x y=>wv bv (some ⟨br,0,none⟩) l.length ((List.range l.length).map (shR l n)) x.val y.val (by rw [hrl];exact x.isLt) (by rw [hrl];exact y.isLt) (by rw [hrl];omega)) (by rw [hfl];omega)
 rw [hfl] at hsort
 (first|refine GO.ef (Ef.call (hsort) rfl (by repeat (first|exact Ent.refl _|apply Ent.take))) ac ?_)
 rintro _ _ ⟨_,⟨rfl,ys,⟨hyp,hys⟩,rfl⟩,hL⟩
 simp only [aq,aj] at hL;subst hL
 have hyo:(ys.map (fun i=>i.val)).Perm (List.range l.length):=by
  rw [← oE]
  exact hyp.map _
 have hyr:(ys.map (fun i=>i.val)).Pairwise (rkLt (shR l n)):=by
  refine uL hyo ?_
  rw [List.pairwise_map]
  refine hys.imp ?_
  intro a b hab
  rw [mW] at hab
  omega
 obtain ⟨o,ho⟩:∃ o,o=ys.map (fun i=>i.val):=⟨_,rfl⟩
 rw [← ho] at hyo hyr
 have hoL:o.length=l.length:=by have:=hyo.length_eq;simpa using this
 have hom:(o.map (fun k:Nat=>(k:Int))).length=l.length:=by simpa using hoL
 have hog:∀ i,i<o.length→(o.map (fun k:Nat=>(k:Int)))[i]! = (o[i]! : Int):=fun i hi=>ez _ hi
 have hob:∀ i,i<o.length→o[i]! < l.length:=fun i hi=>List.mem_range.1 (hyo.mem_iff.1 (aG hi))
 refine GO.ent (L':=osl (encZ .i64) 1 tInt (some ⟨bo,0,none⟩) l.length (o.map (fun k:Nat=>(k:Int)))::osl (encZ .i64) 1 tInt (some ⟨bp,0,none⟩) l.length ((List.range l.length).map (shQ l n))::L) ?_ ?_
 ·have e:ys.map (fun i:Fin l.length=>(i.val:Int))=o.map (fun k:Nat=>(k:Int)):=by rw [ho,List.map_map];rfl
  rw [← e]
  refine (show Ent _ (osl (encZ .i64) 1 tInt (some ⟨bo,0,none⟩) l.length (ys.map (fun i:Fin l.length=>(i.val:Int)))::_) from Ent.n5 (f:=fun i:Fin l.length=>(i.val:Int)) (enc:=encZ .i64)).trans ?_
  exact ae
 clear hys hyp ho ys
 repeat first|refine aa ?_|intro _|refine co ?_
 refine G.loop (α:=Nat) (fun i=>(i:Int)≤eU l n) (fun i=>[(9,.slice (some ⟨bp,0,none⟩) l.length l.length),(11,.slice (some ⟨bo,0,none⟩) l.length l.length),(85,.int .i64 (eU l n)),(86,.int .i64 (i:Int))])
  (fun i=>osl (encZ .i64) 1 tInt (some ⟨bo,0,none⟩) l.length (o.map (fun k:Nat=>(k:Int)))::osl (encZ .i64) 1 tInt (some ⟨bp,0,none⟩) l.length ((List.range l.length).map (fun k=>shQ l n k+if k∈o.take i then 1 else 0))::L) (fun i=>(eU l n).toNat - i) 0 hl1 ai ?_ ?_
 ·have e:(List.range l.length).map (fun k=>shQ l n k+if k∈o.take 0 then 1 else 0)=(List.range l.length).map (shQ l n):=cH (fun k _=>by simp)
  rw [e]
  exact ae
 intro i hi
 by_cases hlt:(i:Int)<eU l n
 case neg =>
  have e:(List.range l.length).map (fun k=>shQ l n k+if k∈o.take i then 1 else 0)=(List.range l.length).map (shC l n):=by
   apply cH
   intro k hk
   have hk2:=List.mem_range.1 hk
   unfold shC
   rw [mX]
   congr 1
   have h3:=gD hyo hyr (m:=i) hk2
   by_cases h4:dO (shR l n) l.length k<i
   ·rw [if_pos (h3.2 h4),if_pos ab]
   ·rw [if_neg (fun h=>h4 (h3.1 h)),if_neg ab]
  rw [e]
  repeat first|refine aa ?_|intro _|refine co ?_
  exact KX.d7 ag ae ⟨some ⟨bp,0,none⟩,l.length,rfl,rfl⟩
 have hii:(i:Int).toNat=i:=ab
 have hio:i<o.length:=ab
 have hob1:=hob i hio
 have hpl:((List.range l.length).map (fun k=>shQ l n k+if k∈o.take i then 1 else 0)).length=l.length:=by simp
 have hpg:((List.range l.length).map (fun k=>shQ l n k+if k∈o.take i then 1 else 0))[o[i]!]! = shQ l n o[i]!:=by
  rw [fZ hob1,if_neg,Int.add_zero]
  intro hmem
  have h3:=(gD hyo hyr hob1).1 hmem
  rw [getElem!_of hio,iO hyo hyr hio] at h3
  omega
 obtain ⟨q1,q2⟩:=iM hl h0 h1 hob1
 have hok:=hl _ (aG hob1)
 unfold LotOk at hok
 repeat first|refine aa ?_|intro _|refine co ?_
 rw [hii,hog i hio]
 have hoi:((o[i]! : Nat):Int).toNat=o[i]!:=ab
 repeat first|refine aa ?_|intro _|refine co ?_
 rw [hoi,hpg]
 repeat first|refine aa ?_|intro _|refine co ?_
 have e:((List.range l.length).map (fun k=>shQ l n k+if k∈o.take i then 1 else 0)).set o[i]! (shQ l n o[i]! + 1)=(List.range l.length).map (fun k=>shQ l n k+if k∈o.take (i+1) then 1 else 0):=by
  apply dh
  ·simp
  ·intro k h3 h4
   have hk:k<l.length:=by simpa using h4
   rw [fg]
   simp only [el,List.getElem_range]
   have m1:=gD hyo hyr (m:=i) hk
   have m2:=gD hyo hyr (m:=i+1) hk
   by_cases h5:o[i]! = k
   ·subst h5
    have h6:dO (shR l n) l.length o[i]! = i:=by rw [getElem!_of hio];exact iO hyo hyr hio
    rw [if_pos rfl,if_pos (m2.2 ab)]
   ·rw [if_neg h5]
    congr 1
    have h6:dO (shR l n) l.length k≠i:=by
     intro h7
     refine h5 (rg (R:=shR l n) hob1 hk ?_)
     rw [h7,getElem!_of hio]
     exact iO hyo hyr hio
    by_cases h7:dO (shR l n) l.length k<i
    ·rw [if_pos (m1.2 h7),if_pos (m2.2 ab)]
    ·rw [if_neg (fun h=>h7 (m1.1 h)),if_neg (fun h=>absurd (m2.1 h) ab)]
 rw [hoi,e]
 refine ⟨i+1,ab,ab,?_,by exact ae⟩
 rw [aM i]
 exact ai
end
section
open Go.V
attribute [local irreducible] G GO GP GPW GPK Ev Ef EfR Ent CB GB V.Enters
theorem tJ {L:List HP} (n w s:Int) (h0:0≤n) (h1:n≤1099511627776) (h2:0≤w) (h3:w≤1152921504606846976) (h4:0<s) (h5:s≤1152921504606846976) (hq:n*w / s≤1099511627776) :
  Tri Tryz.prog 307 #[.int .i64 n,.int .i64 w,.int .i64 s] L (fun v L'=>v=.tuple #[.int .i64 (n*w / s),.int .i64 (n*w % s),.bool true]∧L' = L):=by
 obtain ⟨N,rfl⟩:∃ N:Nat,n=N:=⟨n.toNat,ab⟩
 obtain ⟨W,rfl⟩:∃ W:Nat,w=W:=⟨w.toNat,ab⟩
 obtain ⟨S,rfl⟩:∃ S:Nat,s=S:=⟨s.toNat,ab⟩
 have e1:((N*W / S:Nat):Int)=(N:Int)*W / S:=by rw [← fk];rfl
 have e2:((N*W % S:Nat):Int)=(N:Int)*W % S:=by rw [← fk];rfl
 have h:=uP (L:=L) N W S ab ab ab ab (by rw [← e1] at hq;exact Int.ofNat_le.1 hq)
 rw [e1,e2] at h
 exact h
theorem rk {L:List HP} (n:Int) (h0:0≤n) (h1:n≤1099511627776):Tri Tryz.prog 306 #[.int .i64 n] L (fun v L'=>v=.bool true∧L' = L):=by
 refine Tri.body (args:=[.int .i64 n]) 9 FJ Tryz.func306 rfl rfl rfl (by simp) ?_
 repeat first|refine aa ?_|intro
 exact KX.d7 ag (Ent.refl _) ⟨by rw [aL h1];rfl,rfl⟩
theorem nP {f:Nat→Int} {n b:Nat} {v:Int}:((List.range n).map f).set b v=(List.range n).map (fun k=>if k=b then v else f k):=by
 apply dh
 ·simp
 ·intro k h1 h2
  rw [fg]
  by_cases e:b=k
  ·subst e;simp
  ·rw [if_neg e]
   simp
   intro q
   exact absurd q.symm e
theorem hJ {f g:Nat→Int} {n:Nat} (h:∀ k,k<n→f k=g k):(List.range n).map f=(List.range n).map g:=cH (fun k hk=>h k (List.mem_range.1 hk))
def spO (l:List Lot) (n:Int) (m k:Nat):Int:=shQ l n k+(if dO (shR l n) l.length k<m then 1 else 0)
def spR (l:List Lot) (n:Int) (m k:Nat):Int:=if dO (shR l n) l.length k<m then -1 else shR l n k
theorem Em {R:Nat→Int} {n m b:Nat} (hR:∀ k,k<n→0≤R k) (hm:m<n) (hb:b<n) (h1:∀ j,j<n→(if dO R n j<m then (-1:Int) else R j)≤(if dO R n b<m then -1 else R b)) (h2:∀ j,j<b→(if dO R n j<m then (-1:Int) else R j)<(if dO R n b<m then -1 else R b)):dO R n b=m:=by
 obtain ⟨k,hk,hkm,hlt⟩:=Ft (R:=R) hm
 by_cases e:b=k
 ·rw [e];exact hkm
 exfalso
 have a1:=h1 k hk
 rw [if_neg (by omega:¬dO R n k<m)] at a1
 have r0:=hR k hk
 have hbm:¬dO R n b<m:=fun q=>by rw [if_pos q] at a1;omega
 rw [if_neg hbm] at a1
 rcases hlt b hb e ab with q|⟨q1,q2⟩
 ·omega
 ·have a2:=h2 k q2
  rw [if_neg (by omega:¬dO R n k<m),if_neg hbm] at a2
  omega
theorem CX {l:List Lot} {n:Int} {m b:Nat} (hb:b<l.length) (h:dO (shR l n) l.length b=m):((List.range l.length).map (spO l n m)).set b (spO l n m b+1)=(List.range l.length).map (spO l n (m+1)):=by
 rw [nP]
 apply hJ
 intro k hk
 by_cases e:k=b
 ·rw [if_pos e]
  subst e
  unfold spO
  rw [if_neg ab,if_pos ab]
  omega
 ·rw [if_neg e]
  have:dO (shR l n) l.length k≠m:=fun q=>e (rg hk hb (by rw [q,h]))
  unfold spO
  by_cases c:dO (shR l n) l.length k<m
  ·rw [if_pos c,if_pos ab]
  ·rw [if_neg c,if_neg ab]
theorem CW {l:List Lot} {n:Int} {m b:Nat} (hb:b<l.length) (h:dO (shR l n) l.length b=m):((List.range l.length).map (spR l n m)).set b (-1)=(List.range l.length).map (spR l n (m+1)):=by
 rw [nP]
 apply hJ
 intro k hk
 by_cases e:k=b
 ·rw [if_pos e]
  subst e
  unfold spR
  rw [if_pos ab]
 ·rw [if_neg e]
  have:dO (shR l n) l.length k≠m:=fun q=>e (rg hk hb (by rw [q,h]))
  unfold spR
  by_cases c:dO (shR l n) l.length k<m
  ·rw [if_pos c,if_pos ab]
  ·rw [if_neg c,if_neg ab]
theorem sb {l:List Lot} (hl:∀ x∈l,LotOk x) (hll:l.length≤4096):lsum l≤4096*1099511627776:=by
 have h:=(fX hl l.length (aw _)).2
 rw [gi] at h
 have h2:(l.length:Int)*1099511627776≤4096*1099511627776:=bH ab ac
 omega
abbrev wO:List Stp:=[.ev 0,.ev 1,.ev 2,.ev 3,.ev 4,.ev 5,.ev 6,.ev 7,.ev 8]
theorem cQ {φ ψ:Prop} (k:ψ) (h:Hid ψ→φ:=by intro k;(with_reducible apply G.d8);first|refine G.d7 (N:=113) (id:=26) wO mixed an (Hid.out k)):φ:=h ⟨k⟩
theorem wA {L:List HP} (ad:Option Addr) (c:Nat) (l:List Lot) (n:Int) [hrd:Rds L ad Int (encZ .i64) 1 (wts l)] (hll:l.length≤4096) (hl:∀ x∈l,LotOk x) (hne:l≠[]) (h0:0≤n) (h1:n≤lsum l) (h2:n≤1099511627776) :
  Tri Tryz.prog 290 #[.int .i64 n,.slice ad l.length c] L (fun v L'=>∃ ad' cap',v=.tuple #[.slice ad' l.length cap',.int .i64 0]∧L' = osl (encZ .i64) 1 tInt ad' cap' ((List.range l.length).map (shC l n))::L):=by
 have hwl:=rK l
 have hpos:0<l.length:=List.length_pos_iff.2 hne
 have hs0:=jf hl hpos
 have hsl:=sb hl hll
 refine Tri.body (args:=[.int .i64 n,.slice ad l.length c]) 113 FR Tryz.func290 rfl rfl rfl (by simp) ?_
 repeat first|refine aa ?_|intro _|refine cQ ?_
 refine G.loop (α:=Nat) (fun i=>i≤l.length) (fun i=>[(0,.int .i64 n),(1,.slice ad l.length c),(6,.int .i64 (lsum (l.take i))),(7,.int .i64 (i:Int))]) (fun _=>L) (fun i=>l.length - i) 0 (al _) ai (Ent.refl _) ?_
 intro i hi
 have hb1:=fX hl i hi
 have hb2:(i:Int)*1099511627776≤4096*1099511627776:=bH ab ac
 by_cases hlt:i<l.length
 case pos =>
  have hii:(i:Int).toNat=i:=av i
  have hw:(wts l)[(i:Int).toNat]! = l[i]!.2.2:=by rw [hii];exact mB hlt
  have hlo:=hl _ (aG hlt)
  have hlw:=hlo.w
  obtain ⟨o1,o2,o3,o4,o5⟩:=hlo
  have hst:=dI l hlt
  repeat first|refine aa ?_|intro _|refine cQ ?_
  rw [hw]
  refine GO.ef (Ef.d7 (rk l[i]!.2.2 ab ab) rfl) ac ?_
  rintro _ L ⟨rfl,rfl⟩
  repeat first|refine aa ?_|intro _|refine cQ ?_
  rw [hw]
  repeat first|refine aa ?_|intro _|refine cQ ?_
  refine ⟨i+1,ab,ab,?_,Ent.refl _⟩
  rw [aM i,hst]
  exact ai
 obtain rfl:i=l.length:=ab
 rw [gi]
 repeat first|refine aa ?_|intro _|refine cQ ?_
 refine GO.ef (Ef.d7 (rk n h0 h2) rfl) ac ?_
 rintro _ L ⟨rfl,rfl⟩
 repeat first|refine aa ?_|intro _|refine cQ ?_
 refine G.loop (α:=Nat×(Option Addr×Nat)×Option Addr×Nat) (fun z=>z.1≤l.length) (fun z=>[(0,.int .i64 n),(1,.slice ad l.length c),(6,.int .i64 (lsum l)),(10,.slice z.2.1.1 z.1 z.2.1.2),(11,.slice z.2.2.1 z.1 z.2.2.2),(12,.int .i64 (n - cF z.1 (shQ l n))),(13,.int .i64 (z.1:Int))]) (fun z=>osl (encZ .i64) 1 tInt z.2.1.1 z.2.1.2 ((List.range z.1).map (shQ l n))::osl (encZ .i64) 1 tInt z.2.2.1 z.2.2.2 ((List.range z.1).map (shR l n))::L) (fun z=>l.length - z.1) (0,(none,0),none,0) (al _) ?_ ((Ent.d8 (encZ .i64) 1 tInt).trans (Ent.d8 (encZ .i64) 1 tInt)) ?_
 ·rw [jl,eJ]
  exact ai
 rintro ⟨i,⟨a1,c1⟩,a2,c2⟩ hi
 dsimp only at hi ⊢
 have hql:((List.range i).map (shQ l n)).length=i:=by simp
 have hrl:((List.range i).map (shR l n)).length=i:=by simp
 have hsb:0≤cF i (shQ l n)∧cF i (shQ l n)≤n:=by
  have h3:cF l.length (shQ l n)≤n:=by
   have:=(kH (n:=n) hl hne).1
   rw [jK] at this
   omega
  have h4:∀ j,j≤l.length→0≤cF j (shQ l n):=by
   intro j
   induction j with
   | zero=>intro _;exact aW _
   | succ j ih =>
    intro hj
    rw [dH]
    have:=ih ab
    have:=(iM hl h0 h1 (show j<l.length by omega)).1
    omega
  have h5:∀ d,i+d≤l.length→cF i (shQ l n)≤cF (i+d) (shQ l n):=by
   intro d
   induction d with
   | zero=>intro _;exact aW _
   | succ d ih =>
    intro hd
    have:=ih ab
    rw [show i+(d+1)=(i+d)+1 by omega,dH]
    have:=(iM hl h0 h1 (show i+d<l.length by omega)).1
    omega
  have h6:=h5 (l.length - i) ab
  rw [show i+(l.length - i)=l.length by omega] at h6
  exact ⟨h4 i hi,ab⟩
 by_cases hlt:i<l.length
 case pos =>
  have hii:(i:Int).toNat=i:=av i
  have hw:(wts l)[(i:Int).toNat]! = l[i]!.2.2:=by rw [hii];exact mB hlt
  obtain ⟨o1,o2,o3,o4,o5⟩:=hl _ (aG hlt)
  have hqb:=iM hl h0 h1 hlt
  have eq:shQ l n i=n*l[i]!.2.2 / lsum l:=rfl
  have er:shR l n i=n*l[i]!.2.2 % lsum l:=rfl
  repeat first|refine aa ?_|intro _|refine cQ ?_
  rw [hw]
  refine GO.ef (Ef.d7 (tJ n l[i]!.2.2 (lsum l) h0 h2 ab ab hs0 ab (by rw [← eq];omega)) rfl) ac ?_
  rintro _ _ ⟨rfl,rfl⟩
  rw [← eq,← er]
  repeat first|refine aa ?_|intro _|refine cQ ?_
  refine GO.ef (Ef.d8 (enc:=encZ .i64) (shQ l n i) rfl rfl rfl hql.symm rfl (by rfl) (lF _ _) ab ab) ac ?_
  rintro _ _ ⟨a3,c3,rfl,rfl⟩
  repeat first|refine aa ?_|intro _|refine cQ ?_
  refine GO.ef (Ef.d8 (enc:=encZ .i64) (shR l n i) rfl rfl rfl hrl.symm rfl (by rfl) (lF _ _) ab ab) ac ?_
  rintro _ _ ⟨a4,c4,rfl,rfl⟩
  repeat first|refine aa ?_|intro _|refine cQ ?_
  have e1:(List.range i).map (shQ l n)++[shQ l n i]=(List.range (i+1)).map (shQ l n):=by rw [dU,aS];rfl
  have e2:(List.range i).map (shR l n)++[shR l n i]=(List.range (i+1)).map (shR l n):=by rw [dU,aS];rfl
  rw [e1,e2]
  refine ⟨(i+1,(a3,c3),a4,c4),by dsimp only;omega,by dsimp only;omega,?_,by exact ae⟩
  dsimp only
  rw [aM i,dH,show ((List.range (i+1)).map (shQ l n)).length=i+1 by simp,show ((List.range (i+1)).map (shR l n)).length=i+1 by simp,show n - (cF i (shQ l n)+shQ l n i)=n - cF i (shQ l n) - shQ l n i by omega]
  exact ai
 obtain rfl:i=l.length:=ab
 have hle:n - cF l.length (shQ l n)=eU l n:=(jK l n).symm
 rw [hle]
 obtain ⟨hl1,hl2⟩:=kH (n:=n) hl hne
 have hO0:(List.range l.length).map (shQ l n)=(List.range l.length).map (spO l n 0):=hJ (fun k _=>by unfold spO;rw [if_neg ab];omega)
 have hR0:(List.range l.length).map (shR l n)=(List.range l.length).map (spR l n 0):=hJ (fun k _=>by unfold spR;rw [if_neg ab])
 rw [hO0,hR0]
 repeat first|refine aa ?_|intro _|refine cQ ?_
 refine G.loop (α:=Nat) (fun m=>(m:Int)≤eU l n) (fun m=>[(0,.int .i64 n),(1,.slice ad l.length c),(6,.int .i64 (lsum l)),(10,.slice a1 l.length c1),(11,.slice a2 l.length c2),(12,.int .i64 (eU l n - (m:Int)))]) (fun m=>osl (encZ .i64) 1 tInt a1 c1 ((List.range l.length).map (spO l n m))::osl (encZ .i64) 1 tInt a2 c2 ((List.range l.length).map (spR l n m))::L) (fun m=>(eU l n).toNat - m) 0 ab ?_ (Ent.refl _) ?_
 ·rw [show ((0:Nat):Int)=0 from rfl,eJ]
  exact ai
 intro m hm
 have hxl:∀ f:Nat→Int,((List.range l.length).map f).length=l.length:=fun f=>by simp
 by_cases hml:(m:Int)=eU l n
 ·have hO:(List.range l.length).map (spO l n m)=(List.range l.length).map (shC l n):=hJ (fun k _=>by
   unfold spO shC
   rw [mX,← hml]
   by_cases q:dO (shR l n) l.length k<m
   ·rw [if_pos q,if_pos ab]
   ·rw [if_neg q,if_neg ab])
  rw [hO]
  repeat first|refine aa ?_|intro _|refine cQ ?_
  exact KX.d7 ag ae ⟨a1,c1,rfl,rfl⟩
 have hmn:m<l.length:=ab
 have hxO:=hxl (spO l n m)
 have hxR:=hxl (spR l n m)
 have hgO:∀ k,k<l.length→((List.range l.length).map (spO l n m))[k]! = spO l n m k:=fun k hk=>fZ hk
 have hgR:∀ k,k<l.length→((List.range l.length).map (spR l n m))[k]! = spR l n m k:=fun k hk=>fZ hk
 have hsO:=fun b (hb:b<l.length) h=>CX (n:=n) (m:=m) hb h
 have hsR:=fun b (hb:b<l.length) h=>CW (n:=n) (m:=m) hb h
 obtain ⟨xs,hxs⟩:∃ xs,xs=(List.range l.length).map (spO l n m):=⟨_,rfl⟩
 obtain ⟨ys,hys⟩:∃ ys,ys=(List.range l.length).map (spR l n m):=⟨_,rfl⟩
 rw [← hxs] at hxO hgO hsO ⊢
 rw [← hys] at hxR hgR hsR ⊢
 repeat first|refine aa ?_|intro _|refine cQ ?_
 refine G.loop (α:=Nat×Nat) (fun z=>z.1≤l.length∧z.2<z.1∧(∀ j,j<z.1→ys[j]!≤ys[z.2]!)∧∀ j,j<z.2→ys[j]! < ys[z.2]!) (fun z=>[(0,.int .i64 n),(1,.slice ad l.length c),(6,.int .i64 (lsum l)),(10,.slice a1 l.length c1),(11,.slice a2 l.length c2),(12,.int .i64 (eU l n - (m:Int))),(17,.int .i64 (z.2:Int)),(18,.int .i64 (z.1:Int))]) (fun _=>osl (encZ .i64) 1 tInt a1 c1 xs::osl (encZ .i64) 1 tInt a2 c2 ys::L) (fun z=>l.length - z.1) (1,0) ⟨hpos,Nat.zero_lt_one,fun j hj=>(show j=0 by omega)▸aW _,fun j hj=>absurd hj (bI j)⟩ ai (Ent.refl _) ?_
 rintro ⟨i,b⟩ ⟨i1,i2,i3,i4⟩
 dsimp only at i1 i2 i3 i4 ⊢
 have hbb:(b:Int).toNat=b:=av b
 by_cases hlt:i<l.length
 case pos =>
  have hii:(i:Int).toNat=i:=av i
  by_cases hc:ys[(b:Int).toNat]! < ys[(i:Int).toNat]!
  ·repeat first|refine aa ?_|intro _|refine cQ ?_
   rw [hbb,hii] at hc
   refine ⟨(i+1,i),⟨by dsimp only;omega,by dsimp only;omega,?_,?_⟩,by dsimp only;omega,?_,by exact ae⟩
   ·dsimp only
    intro j hj
    by_cases e:j=i
    ·subst e;exact aW _
    ·have:=i3 j ab;omega
   ·dsimp only
    intro j hj
    have:=i3 j hj
    omega
   ·dsimp only
    rw [aM i]
    exact ai
  ·repeat first|refine aa ?_|intro _|refine cQ ?_
   rw [hbb,hii] at hc
   refine ⟨(i+1,b),⟨by dsimp only;omega,by dsimp only;omega,?_,i4⟩,by dsimp only;omega,?_,by exact ae⟩
   ·dsimp only
    intro j hj
    by_cases e:j=i
    ·subst e;omega
    ·exact i3 j ab
   ·dsimp only
    rw [aM i]
    exact ai
 obtain rfl:i=l.length:=ab
 have hbest:dO (shR l n) l.length b=m:=by
  refine Em (fun k hk=>cN _ ab) hmn i2 ?_ ?_
  ·intro j hj
   have:=i3 j hj
   rw [hgR j hj,hgR b i2] at this
   exact this
  ·intro j hj
   have:=i4 j hj
   rw [hgR j ab,hgR b i2] at this
   exact this
 have hOs:=hsO b i2 hbest
 have hRs:=hsR b i2 hbest
 have hOb:0≤spO l n m b∧spO l n m b≤1099511627776*2:=by
  have q1:=iM hl h0 h1 i2
  obtain ⟨o1,o2,o3,o4,o5⟩:=hl _ (aG i2)
  unfold spO
  split<;>omega
 rw [← hgO b i2,← hbb] at hOs hOb
 have hRs' : ys.set (b:Int).toNat (-1)=(List.range l.length).map (spR l n (m+1)):=by rw [hbb];exact hRs
 have hbl:(b:Int).toNat<xs.length:=ab
 repeat first|refine aa ?_|intro _|refine cQ ?_
 rw [hOs,hRs']
 refine ⟨m+1,ab,ab,?_,by exact ae⟩
 rw [aM m,show eU l n - ((m:Int)+1)=eU l n - (m:Int) - 1 by omega]
 exact ai
end
end Go.Proofs.YtommnllbflbdmaaGreatDoor
