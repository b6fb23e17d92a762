/- Lemmas. -/
import Derived.Test.YtommnllbflbdmaaGreatDoorLas
set_option linter.all false
set_option maxHeartbeats 4000000
namespace Go.Proofs.YtommnllbflbdmaaGreatDoor
section
open Go.V
attribute [local irreducible] G GO GP GPW GPK Ev Ef EfR Ent CB GB V.Enters
theorem td{α β:Type}{e1:α→LV}{e2:β→LV}{s1 s2:Nat}{a1 a2:OA}{x1:List α}{x2:List β}:∀ι h,Stars [isl e1 s1 a1 x1,isl e2 s2 a2 x2] ι h→Stars [isl e1 s1 a1 x1,isl e2 s2 a2 x2] ι Hp.emp:=by
 rintro ι h ⟨ι₀,h₁,h₂,a,b,c,d,e,ι₁,h₃,h₄,a',b',c',d',e',f'⟩;exact⟨ι₀,Hp.emp,Hp.emp,a,Hp.d8 _,Hp.d7 _,Hp.d7 _,e,ι₁,Hp.emp,Hp.emp,a',Hp.d8 _,Hp.d7 _,Hp.d7 _,e',trivial⟩
def wts(l:LL):List Int:=l.map (fun x=>x.2.2)
theorem sD(l:LL):(wts l).length=l.length:=by simp[wts]
theorem mY{l:LL}{k:Nat}(h:k<l.length):(wts l)[k]! = l[k]!.2.2:=eo _ h
theorem ji{l:LL}{n:Int}(hl:∀x∈l,LotOk x)(h0:0≤n)(h1:n≤lsum l){k:Nat}(hk:k<l.length):0≤shQ l n k∧shQ l n k≤l[k]!.2.2:=by
 have hs:=jw hl hk;have hw:=hl _ (aI hk);unfold LotOk at hw;refine⟨iU (dC h0 ac) ac,?_⟩;unfold shQ;refine Int.ediv_le_of_le_mul hs ?_;rw[Int.mul_comm];exact Int.mul_le_mul_of_nonneg_left h1 ac
theorem uw{L:LH}(n w s:Int)(h0:0≤n)(h1:n≤1099511627776)(h2:0≤w)(h3:w≤1152921504606846976)(h4:0<s)(h5:s≤1152921504606846976)(hq:n*w / s≤1099511627776) :
  Tri ah 322 #[ab n,ab w,ab s] L (fun v L'=>v=.tuple #[.int .u64 (n*w / s),.int .u64 (n*w % s),ab 0]∧L' = L):=by
 obtain⟨nN,rfl⟩:∃nN:Nat,n=(nN:Int):=⟨n.toNat,ac⟩;obtain⟨wN,rfl⟩:∃wN:Nat,w=(wN:Int):=⟨w.toNat,ac⟩;obtain⟨sN,rfl⟩:∃sN:Nat,s=(sN:Int):=⟨s.toNat,ac⟩;have e1:(nN:Int)*(wN:Int) / (sN:Int)=((nN*wN / sN:Nat):Int):=by rw[Int.natCast_ediv,fK]
 have e2:(nN:Int)*(wN:Int) % (sN:Int)=((nN*wN % sN:Nat):Int):=by rw[Int.natCast_emod,fK]
 rw[e1] at hq;rw[e1,e2];exact vv nN wN sN ac ac ac ac ac
theorem vt{E cap:Nat}{ad:OA}{α:Type}[Inhabited α]{enc:α→Value}(h1:OneCell enc){xs:List α}{Lc:LH}{g:Nat}{cb:Array Value}(cf:α→α→Int)(hO:Go.Sort.SWO (ltOf cf))(heg:V.Enters ah g)(hpers:∀ι h,Stars Lc ι h→Stars Lc ι Hp.emp)(hcmp:∀x y:α,Tri ah g (#[enc x,enc y]++cb) Lc (fun u _=>u=ab (cf x y)))(hsz:xs.length<4611686018427387904) :
  Tri ah 323 #[.slice ad xs.length cap,.func (.func g) #[] cb] (osl (fun x=>[enc x]) 1 E ad cap xs::Lc) (fun v L'=>v=.tuple #[]∧∃ys,gh cf xs ys∧L' = osl (fun x=>[enc x]) 1 E ad cap ys::Lc) :=
 Tri.d9 (ρ:=Tryz.sortI_ren) Tryz.sortI { Tryz.sortI with } h1 cf hO Hb heg hpers hcmp hsz
theorem pf(n:Nat):(List.finRange n).map (fun i=>i.val)=List.range n:=by
 apply dv
 ·simp
 ·intro i h1 h2;simp
theorem gE{f:Nat→Int}{n k:Nat}(h:k<n):((List.range n).map f)[k]! = f k:=by
 rw[getElem!_of (by simpa using h)];simp
def uQ(R:Nat→Int)(n:Nat)(i j:Fin n):Int:=shCf ((List.range n).map R) i.val j.val
theorem nB(R:Nat→Int)(n:Nat)(i j:Fin n):uQ R n i j<0↔R j.val<R i.val∨(R j.val=R i.val∧i.val<j.val):=by
 unfold uQ;rw[FB,gE i.isLt,gE j.isLt]
theorem Cq(R:Nat→Int)(n:Nat):Go.Sort.SWO (ltOf (uQ R n)) where
 irrefl x:=by simp only[ltOf,decide_eq_false_iff_not];rw[nB];omega
 trans x y z h1 h2:=by simp only[ltOf,decide_eq_true_eq] at *;rw[nB] at *;omega
 ntrans x y z h1 h2:=by simp only[ltOf,decide_eq_false_iff_not] at *;rw[nB] at *;omega
abbrev tU64:Nat:=238
abbrev Ak:Nat:=352
abbrev vK:List Stp:=[.ev 0,.ev 1,.ev 2,.ev 3,.ev 4,.ev 5,.ev 6,.ev 7,.ev 8,.ev 9,.ev 10,.ef 11,.ev 12,.ef 13,.ev 14,.ef 15]
theorem cG{φ ψ:Prop}(k:ψ)(h:Hid ψ→φ:=by intro k;(with_reducible apply G.d8);first|refine G.d7 (N:=100) (id:=23) vK mixed ap (Hid.out k)):φ:=h ⟨k⟩
theorem Am{L:LH}(ad:OA)(c:Nat)(l:LL)(n:Int)[hrd:Rds L ad Int (encZ .i64) 1 (wts l)](hll:l.length≤4096)(hl:∀x∈l,LotOk x)(hne:l≠[])(h0:0≤n)(h1:n≤lsum l)(h2:n≤1099511627776) :
  Tri ah 300 #[ab n,.slice ad l.length c] L (fun v L'=>∃ad' cap',v=.tuple #[.slice ad' l.length cap',ab 0]∧L' = osl (encZ .i64) 1 tInt ad' cap' ((List.range l.length).map (shC l n))::L):=by
 have hlen:0<l.length:=List.length_pos_iff.2 hne;have hwl:=sD l;have hs:=jw hl hlen;have hsb:=gx hl l.length (aB _);rw[gM] at hsb;have hm:(l.length:Int)*1099511627776≤4096*1099511627776:=bX ac ae;refine Tri.body (args:=[ab n,.slice ad l.length c]) 100 Hm Tryz.func300 rfl rfl rfl (by simp) ?_;repeat first|refine aa ?_|intro _|refine cG ?_
 refine GO.ef (Ef.d7 (lx n) rfl) ae ?_;rintro _ L ⟨rfl,rfl⟩;rw[aU (show jH n from⟨h0,h2⟩)];repeat first|((fail_if_success (with_reducible refine G.e7 4 ?_));(with_reducible apply G.seq))|refine bB ?_|intro _|refine cG ?_
 refine G.d9 (α:=Unit) (fun _=>True) (fun _=>[(0,ab n),(1,.slice ad l.length c),(6,ab (lsum l))]) (fun _=>L) ?_ ?_
 ·repeat first|refine aa ?_|intro _|refine cG ?_
  refine G.loop (α:=Nat) (fun i=>i≤l.length) (fun i=>[(0,ab n),(1,.slice ad l.length c),(6,ab (lsum (l.take i))),(21,.slice ad l.length c),(22,ab l.length),(23,ab (i:Int))]) (fun _=>L) (fun i=>l.length - i) 0 (ao _) aj (Ent.refl _) ?_;intro i hi;by_cases hlt:i<l.length
  case neg =>
   have hin:i=l.length:=ac;subst hin;rw[gM];repeat first|refine aa ?_|intro _|refine cG ?_
   exact⟨(),trivial,aj,Ent.refl _⟩
  have hii:(i:Int).toNat=i:=ac;have hok:=hl _ (aI hlt);unfold LotOk at hok;have hb1:=gx hl i ac;have hb2:=dV l hlt;have hm2:(i:Int)*1099511627776≤4096*1099511627776:=bX ac ae;repeat first|refine aa ?_|intro _|refine cG ?_
  rw[hii,mY hlt];refine GO.ef (Ef.d7 (lx l[i]!.2.2) rfl) ae ?_;rintro _ L ⟨rfl,rfl⟩;rw[aU (show jH l[i]!.2.2 from⟨ac,ac⟩)];repeat first|refine aa ?_|intro _|refine cG ?_
  refine⟨i+1,ac,ac,?_,Ent.refl _⟩;rw[hb2,aP i];exact aj
 rintro _ _;repeat first|refine aa ?_|intro _|refine cG ?_
 refine GO.ef (Ef.makeSlice (encZ .i64) 0 rfl rfl rfl ac ac ac) ae ?_;rintro _ _⟨bp,rfl,rfl⟩;rw[aA,←jE l.length (shQ l n)];repeat first|refine aa ?_|intro _|refine cG ?_
 refine GO.ef (Ef.makeSlice (encZ .u64) 0 rfl rfl rfl ac ac ac) ae ?_;rintro _ _⟨br,rfl,rfl⟩;rw[aA,←jE l.length (shR l n)];repeat first|refine aa ?_|intro _|refine cG ?_
 rename_i bv;refine GO.ef (Ef.makeSlice (encZ .i64) 0 rfl rfl rfl ac ac ac) ae ?_;rintro _ _⟨bo,rfl,rfl⟩;rw[aA,←jE l.length (fun k:Nat=>(k:Int))];repeat first|((fail_if_success (with_reducible refine G.e7 19 ?_));(with_reducible apply G.seq))|refine bB ?_|intro _|refine cG ?_
 refine G.d9 (α:=Unit) (fun _=>True) (fun _=>[(9,.slice (some ⟨bp,0,none⟩) l.length l.length),(10,au bv),(11,.slice (some ⟨bo,0,none⟩) l.length l.length),(12,ab (ft l n))])
  (fun _=>osl (encZ .i64) 1 tInt (some ⟨bp,0,none⟩) l.length ((List.range l.length).map (shQ l n))::obj bv Ak [.slice (some ⟨br,0,none⟩) l.length l.length]::osl (encZ .u64) 1 tU64 (some ⟨br,0,none⟩) l.length ((List.range l.length).map (shR l n))::osl (encZ .i64) 1 tInt (some ⟨bo,0,none⟩) l.length ((List.range l.length).map (fun k:Nat=>(k:Int)))::L) ?_ ?_
 ·repeat first|refine aa ?_|intro _|refine cG ?_
  refine G.loop (α:=Nat) (fun i=>i≤l.length) (fun i=>[(0,ab n),(1,.slice ad l.length c),(6,ab (lsum l)),(9,.slice (some ⟨bp,0,none⟩) l.length l.length),(10,au bv),(11,.slice (some ⟨bo,0,none⟩) l.length l.length),(12,ab (n - cS i (shQ l n))),(49,ab l.length),(50,ab (i:Int))])
   (fun i=>osl (encZ .i64) 1 tInt (some ⟨bp,0,none⟩) l.length (fM l.length i (shQ l n))::obj bv Ak [.slice (some ⟨br,0,none⟩) l.length l.length]::osl (encZ .u64) 1 tU64 (some ⟨br,0,none⟩) l.length (fM l.length i (shR l n))::osl (encZ .i64) 1 tInt (some ⟨bo,0,none⟩) l.length (fM l.length i (fun k:Nat=>(k:Int)))::L) (fun i=>l.length - i) 0 (ao _) ?_ ag ?_
  ·rw[jA,fj];exact aj
  intro i hi;have hf1:=jy l.length i (shQ l n);have hf2:=jy l.length i (shR l n);have hf3:=jy l.length i (fun k:Nat=>(k:Int));by_cases hlt:i<l.length
  case neg =>
   have hin:i=l.length:=ac;subst hin;rw[ko,ko,ko,←kf];repeat first|refine aa ?_|intro _|refine cG ?_
   exact⟨(),trivial,aj,by exact ag⟩
  have hii:(i:Int).toNat=i:=ac;have hok:=hl _ (aI hlt);unfold LotOk at hok
  have hsq:0≤cS i (shQ l n)∧cS i (shQ l n)≤lsum (l.take i):=by
   rw[show lsum (l.take i)=cS i (fun k=>l[k]!.2.2) by unfold cS;rw[lG l i hi]];refine⟨?_,kK (fun k hk=>(ji hl h0 h1 ac).2)⟩;have:=kK (n:=i) (f:=fun _=>0) (g:=shQ l n) (fun k hk=>(ji hl h0 h1 ac).1)
   rw[mM] at this;omega
  have hb1:=gx hl i ac;have hm2:(i:Int)*1099511627776≤4096*1099511627776:=bX ac ae;have hss:=dU i (shQ l n);obtain⟨q1,q2⟩:=ji hl h0 h1 hlt;have hr0:0≤shR l n i:=dg _ ac;have hr1:shR l n i<lsum l:=dw _ hs;repeat first|refine aa ?_|intro _|refine cG ?_
  rw[hii,mY hlt];refine GO.ef (Ef.d7 (uw n l[i]!.2.2 (lsum l) h0 h2 ac ac hs ac (by have:=q2;unfold shQ at this;omega)) rfl) ae ?_;rintro _ _⟨rfl,rfl⟩;rw[show n*l[i]!.2.2 / lsum l=shQ l n i from rfl,show n*l[i]!.2.2 % lsum l=shR l n i from rfl];repeat first|refine aa ?_|intro _|refine cG ?_
  have h3:(fM l.length i (fun k:Nat=>(k:Int))).set i (i:Int)=fM l.length (i+1) (fun k:Nat=>(k:Int)):=kn _ hlt;rw[hii,kn (shQ l n) hlt,kn (shR l n) hlt,h3];refine⟨i+1,ac,ac,?_,by exact ag⟩;rw[hss,show n - (cS i (shQ l n)+shQ l n i)=n - cS i (shQ l n) - shQ l n i by omega,aP i];exact aj
 rintro _ _;obtain⟨hl1,hl2⟩:=lj (n:=n) hl hne;haveI:Inhabited (Fin l.length):=⟨⟨0,hlen⟩⟩
 have hrl:((List.range l.length).map (shR l n)).length=l.length:=by simp
 have hol:(List.range l.length).map (fun k:Nat=>(k:Int))=(List.finRange l.length).map (fun i:Fin l.length=>(i.val:Int)):=by
  rw[←pf,eM];rfl
 have hfl:(List.finRange l.length).length=l.length:=by simp
 rw[hol];refine G.ent (L':=osl (fun x:Fin l.length=>[Value.int .i64 (x.val:Int)]) 1 tInt (some ⟨bo,0,none⟩) l.length (List.finRange l.length)::isl pQ 1 (some ⟨bv,0,none⟩) [⟨some ⟨br,0,none⟩,((List.range l.length).map (shR l n)).length,l.length⟩]::isl (encZ .u64) 1 (some ⟨br,0,none⟩) ((List.range l.length).map (shR l n))::osl (encZ .i64) 1 tInt (some ⟨bp,0,none⟩) l.length ((List.range l.length).map (shQ l n))::L) ?_ ?_
 ·refine(Ent.frz (some ⟨br,0,none⟩)).trans ?_;refine(Ent.at (A:=obj bv Ak [.slice (some ⟨br,0,none⟩) l.length l.length]) (Ent.e8 (enc:=pQ) (sz:=1) (xs:=[⟨some ⟨br,0,none⟩,((List.range l.length).map (shR l n)).length,l.length⟩]) (by rw[hrl];rfl) rfl (fun _ _=>rfl) (by simp))).trans ?_;refine(Ent.frz (some ⟨bv,0,none⟩)).trans ?_;refine(Ent.at (A:=osl (encZ .i64) 1 tInt (some ⟨bo,0,none⟩) l.length ((List.finRange l.length).map (fun i:Fin l.length=>(i.val:Int)))) (Ent.o0 (f:=fun i:Fin l.length=>(i.val:Int)) (enc:=encZ .i64))).trans ?_;show Ent (osl (fun x:Fin l.length=>[Value.int .i64 (x.val:Int)]) 1 tInt (some ⟨bo,0,none⟩) l.length (List.finRange l.length)::_) _;exact ag
 repeat first|refine aa ?_|intro _|refine cG ?_
 have hsort:=vt (E:=tInt) (cap:=(List.finRange l.length).length) (ad:=some ⟨bo,0,none⟩) (enc:=fun i:Fin l.length=>Value.int .i64 (i.val:Int)) (by intro x;rfl) (xs:=List.finRange l.length) (Lc:=[isl pQ 1 (some ⟨bv,0,none⟩) [⟨some ⟨br,0,none⟩,((List.range l.length).map (shR l n)).length,l.length⟩],isl (encZ .u64) 1 (some ⟨br,0,none⟩) ((List.range l.length).map (shR l n))]) (g:=324) (cb:=#[au bv]) (uQ (shR l n) l.length) (Cq _ _) Fa td (fun x y=>xk bv (some ⟨br,0,none⟩) l.length ((List.range l.length).map (shR l n)) x.val y.val (by rw[hrl];exact x.isLt) (by rw[hrl];exact y.isLt) (by rw[hrl];omega)) (by rw[hfl];omega);rw[hfl] at hsort;(first|refine GO.ef (Ef.call (hsort) rfl (by repeat (first|exact Ent.refl _|apply Ent.take))) ae ?_);rintro _ _⟨_,⟨rfl,ys,⟨hyp,hys⟩,rfl⟩,hL⟩;simp only[ax,aq] at hL;subst hL
 have hyo:(ys.map (fun i=>i.val)).Perm (List.range l.length):=by
  rw[←pf];exact hyp.map _
 have hyr:(ys.map (fun i=>i.val)).Pairwise (rkLt (shR l n)):=by
  refine vC hyo ?_;rw[List.pairwise_map];refine hys.imp ?_;intro a b hab;rw[nB] at hab;omega
 obtain⟨o,ho⟩:∃o,o=ys.map (fun i=>i.val):=⟨_,rfl⟩;rw[←ho] at hyo hyr;have hoL:o.length=l.length:=by have:=hyo.length_eq;simpa using this
 have hom:(o.map (fun k:Nat=>(k:Int))).length=l.length:=by simpa using hoL
 have hog:∀i,i<o.length→(o.map (fun k:Nat=>(k:Int)))[i]! = (o[i]! : Int):=fun i hi=>eo _ hi;have hob:∀i,i<o.length→o[i]! < l.length:=fun i hi=>List.mem_range.1 (hyo.mem_iff.1 (aI hi));refine GO.ent (L':=osl (encZ .i64) 1 tInt (some ⟨bo,0,none⟩) l.length (o.map (fun k:Nat=>(k:Int)))::osl (encZ .i64) 1 tInt (some ⟨bp,0,none⟩) l.length ((List.range l.length).map (shQ l n))::L) ?_ ?_
 ·have e:ys.map (fun i:Fin l.length=>(i.val:Int))=o.map (fun k:Nat=>(k:Int)):=by rw[ho,eM];rfl
  rw[←e];refine(show Ent _ (osl (encZ .i64) 1 tInt (some ⟨bo,0,none⟩) l.length (ys.map (fun i:Fin l.length=>(i.val:Int)))::_) from Ent.n9 (f:=fun i:Fin l.length=>(i.val:Int)) (enc:=encZ .i64)).trans ?_;exact ag
 clear hys hyp ho ys;repeat first|refine aa ?_|intro _|refine cG ?_
 refine G.loop (α:=Nat) (fun i=>(i:Int)≤ft l n) (fun i=>[(9,.slice (some ⟨bp,0,none⟩) l.length l.length),(11,.slice (some ⟨bo,0,none⟩) l.length l.length),(85,ab (ft l n)),(86,ab (i:Int))])
  (fun i=>osl (encZ .i64) 1 tInt (some ⟨bo,0,none⟩) l.length (o.map (fun k:Nat=>(k:Int)))::osl (encZ .i64) 1 tInt (some ⟨bp,0,none⟩) l.length ((List.range l.length).map (fun k=>shQ l n k+if k∈o.take i then 1 else 0))::L) (fun i=>(ft l n).toNat - i) 0 hl1 aj ?_ ?_
 ·have e:(List.range l.length).map (fun k=>shQ l n k+if k∈o.take 0 then 1 else 0)=(List.range l.length).map (shQ l n):=cU (fun k _=>by simp);rw[e];exact ag
 intro i hi;by_cases hlt:(i:Int)<ft l n
 case neg =>
  have e:(List.range l.length).map (fun k=>shQ l n k+if k∈o.take i then 1 else 0)=(List.range l.length).map (shC l n):=by
   apply cU;intro k hk;have hk2:=List.mem_range.1 hk;unfold shC;rw[nC];congr 1;have h3:=ik hyo hyr (m:=i) hk2;by_cases h4:ej (shR l n) l.length k<i
   ·rw[if_pos (h3.2 h4),if_pos ac]
   ·rw[if_neg (fun h=>h4 (h3.1 h)),if_neg ac]
  rw[e];repeat first|refine aa ?_|intro _|refine cG ?_
  exact KX.d7 ai ag ⟨some ⟨bp,0,none⟩,l.length,rfl,rfl⟩
 have hii:(i:Int).toNat=i:=ac;have hio:i<o.length:=ac;have hob1:=hob i hio;have hpl:((List.range l.length).map (fun k=>shQ l n k+if k∈o.take i then 1 else 0)).length=l.length:=by simp
 have hpg:((List.range l.length).map (fun k=>shQ l n k+if k∈o.take i then 1 else 0))[o[i]!]! = shQ l n o[i]!:=by
  rw[gE hob1,if_neg,Int.add_zero];intro hmem;have h3:=(ik hyo hyr hob1).1 hmem;rw[getElem!_of hio,jk hyo hyr hio] at h3;omega
 obtain⟨q1,q2⟩:=ji hl h0 h1 hob1;have hok:=hl _ (aI hob1);unfold LotOk at hok;repeat first|refine aa ?_|intro _|refine cG ?_
 rw[hii,hog i hio];have hoi:((o[i]! : Nat):Int).toNat=o[i]!:=ac;repeat first|refine aa ?_|intro _|refine cG ?_
 rw[hoi,hpg];repeat first|refine aa ?_|intro _|refine cG ?_
 have e:((List.range l.length).map (fun k=>shQ l n k+if k∈o.take i then 1 else 0)).set o[i]! (shQ l n o[i]! + 1)=(List.range l.length).map (fun k=>shQ l n k+if k∈o.take (i+1) then 1 else 0):=by
  apply dv
  ·simp
  ·intro k h3 h4;have hk:k<l.length:=by simpa using h4
   rw[fC];simp only[eU,List.getElem_range];have m1:=ik hyo hyr (m:=i) hk;have m2:=ik hyo hyr (m:=i+1) hk;by_cases h5:o[i]! = k
   ·subst h5;have h6:ej (shR l n) l.length o[i]! = i:=by rw[getElem!_of hio];exact jk hyo hyr hio
    rw[if_pos rfl,if_pos (m2.2 ac)]
   ·rw[if_neg h5];congr 1
    have h6:ej (shR l n) l.length k≠i:=by
     intro h7;refine h5 (rU (R:=shR l n) hob1 hk ?_);rw[h7,getElem!_of hio];exact jk hyo hyr hio
    by_cases h7:ej (shR l n) l.length k<i
    ·rw[if_pos (m1.2 h7),if_pos (m2.2 ac)]
    ·rw[if_neg (fun h=>h7 (m1.1 h)),if_neg (fun h=>absurd (m2.1 h) ac)]
 rw[hoi,e];refine⟨i+1,ac,ac,?_,by exact ag⟩;rw[aP i];exact aj
theorem uA{L:LH}(n w s:Int)(h0:0≤n)(h1:n≤1099511627776)(h2:0≤w)(h3:w≤1152921504606846976)(h4:0<s)(h5:s≤1152921504606846976)(hq:n*w / s≤1099511627776) :
  Tri ah 307 #[ab n,ab w,ab s] L (fun v L'=>v=.tuple #[ab (n*w / s),ab (n*w % s),.bool true]∧L' = L):=by
 obtain⟨N,rfl⟩:∃N:Nat,n=N:=⟨n.toNat,ac⟩;obtain⟨W,rfl⟩:∃W:Nat,w=W:=⟨w.toNat,ac⟩;obtain⟨S,rfl⟩:∃S:Nat,s=S:=⟨s.toNat,ac⟩;have e1:((N*W / S:Nat):Int)=(N:Int)*W / S:=by rw[←fK];rfl
 have e2:((N*W % S:Nat):Int)=(N:Int)*W % S:=by rw[←fK];rfl
 have h:=vG (L:=L) N W S ac ac ac ac (by rw[←e1] at hq;exact Int.ofNat_le.1 hq);rw[e1,e2] at h;exact h
theorem rY{L:LH}(n:Int)(h0:0≤n)(h1:n≤1099511627776):Tri ah 306 #[ab n] L (fun v L'=>v=.bool true∧L' = L):=by
 refine Tri.body (args:=[ab n]) 9 Hj Tryz.func306 rfl rfl rfl (by simp) ?_;repeat first|refine aa ?_|intro
 exact KX.d7 ai (Ent.refl _) ⟨by rw[aU h1];rfl,rfl⟩
theorem ot{f:Nat→Int}{n b:Nat}{v:Int}:((List.range n).map f).set b v=(List.range n).map (fun k=>if k=b then v else f k):=by
 apply dv
 ·simp
 ·intro k h1 h2;rw[fC];by_cases e:b=k
  ·subst e;simp
  ·rw[if_neg e];simp;intro q;exact absurd q.symm e
theorem iB{f g:Nat→Int}{n:Nat}(h:∀k,k<n→f k=g k):(List.range n).map f=(List.range n).map g:=cU (fun k hk=>h k (List.mem_range.1 hk))
def spO(l:LL)(n:Int)(m k:Nat):Int:=shQ l n k+(if ej (shR l n) l.length k<m then 1 else 0)
def spR(l:LL)(n:Int)(m k:Nat):Int:=if ej (shR l n) l.length k<m then -1 else shR l n k
theorem FA{R:Nat→Int}{n m b:Nat}(hR:∀k,k<n→0≤R k)(hm:m<n)(hb:b<n)(h1:∀j,j<n→(if ej R n j<m then(-1:Int) else R j)≤(if ej R n b<m then -1 else R b))(h2:∀j,j<b→(if ej R n j<m then(-1:Int) else R j)<(if ej R n b<m then -1 else R b)):ej R n b=m:=by
 obtain⟨k,hk,hkm,hlt⟩:=GQ (R:=R) hm;by_cases e:b=k
 ·rw[e];exact hkm
 exfalso;have a1:=h1 k hk;rw[if_neg (by omega:¬ej R n k<m)] at a1;have r0:=hR k hk;have hbm:¬ej R n b<m:=fun q=>by rw[if_pos q] at a1;omega
 rw[if_neg hbm] at a1;rcases hlt b hb e ac with q|⟨q1,q2⟩
 ·omega
 ·have a2:=h2 k q2;rw[if_neg (by omega:¬ej R n k<m),if_neg hbm] at a2;omega
theorem Ec{l:LL}{n:Int}{m b:Nat}(hb:b<l.length)(h:ej (shR l n) l.length b=m):((List.range l.length).map (spO l n m)).set b (spO l n m b+1)=(List.range l.length).map (spO l n (m+1)):=by
 rw[ot];apply iB;intro k hk;by_cases e:k=b
 ·rw[if_pos e];subst e;unfold spO;rw[if_neg ac,if_pos ac];omega
 ·rw[if_neg e];have:ej (shR l n) l.length k≠m:=fun q=>e (rU hk hb (by rw[q,h]));unfold spO;by_cases c:ej (shR l n) l.length k<m
  ·rw[if_pos c,if_pos ac]
  ·rw[if_neg c,if_neg ac]
theorem Eb{l:LL}{n:Int}{m b:Nat}(hb:b<l.length)(h:ej (shR l n) l.length b=m):((List.range l.length).map (spR l n m)).set b (-1)=(List.range l.length).map (spR l n (m+1)):=by
 rw[ot];apply iB;intro k hk;by_cases e:k=b
 ·rw[if_pos e];subst e;unfold spR;rw[if_pos ac]
 ·rw[if_neg e];have:ej (shR l n) l.length k≠m:=fun q=>e (rU hk hb (by rw[q,h]));unfold spR;by_cases c:ej (shR l n) l.length k<m
  ·rw[if_pos c,if_pos ac]
  ·rw[if_neg c,if_neg ac]
theorem sV{l:LL}(hl:∀x∈l,LotOk x)(hll:l.length≤4096):lsum l≤4096*1099511627776:=by
 have h:=(gx hl l.length (aB _)).2;rw[gM] at h;have h2:(l.length:Int)*1099511627776≤4096*1099511627776:=bX ac ae;omega
abbrev xD:List Stp:=[.ev 0,.ev 1,.ev 2,.ev 3,.ev 4,.ev 5,.ev 6,.ev 7,.ev 8]
theorem da{φ ψ:Prop}(k:ψ)(h:Hid ψ→φ:=by intro k;(with_reducible apply G.d8);first|refine G.d7 (N:=113) (id:=26) xD mixed ap (Hid.out k)):φ:=h ⟨k⟩
theorem xo{L:LH}(ad:OA)(c:Nat)(l:LL)(n:Int)[hrd:Rds L ad Int (encZ .i64) 1 (wts l)](hll:l.length≤4096)(hl:∀x∈l,LotOk x)(hne:l≠[])(h0:0≤n)(h1:n≤lsum l)(h2:n≤1099511627776) :
  Tri ah 290 #[ab n,.slice ad l.length c] L (fun v L'=>∃ad' cap',v=.tuple #[.slice ad' l.length cap',ab 0]∧L' = osl (encZ .i64) 1 tInt ad' cap' ((List.range l.length).map (shC l n))::L):=by
 have hwl:=sD l;have hpos:0<l.length:=List.length_pos_iff.2 hne;have hs0:=jw hl hpos;have hsl:=sV hl hll;refine Tri.body (args:=[ab n,.slice ad l.length c]) 113 Hs Tryz.func290 rfl rfl rfl (by simp) ?_;repeat first|refine aa ?_|intro _|refine da ?_
 refine G.loop (α:=Nat) (fun i=>i≤l.length) (fun i=>[(0,ab n),(1,.slice ad l.length c),(6,ab (lsum (l.take i))),(7,ab (i:Int))]) (fun _=>L) (fun i=>l.length - i) 0 (ao _) aj (Ent.refl _) ?_;intro i hi;have hb1:=gx hl i hi;have hb2:(i:Int)*1099511627776≤4096*1099511627776:=bX ac ae;by_cases hlt:i<l.length
 case pos =>
  have hii:(i:Int).toNat=i:=aA i;have hw:(wts l)[(i:Int).toNat]! = l[i]!.2.2:=by rw[hii];exact mY hlt
  have hlo:=hl _ (aI hlt);have hlw:=hlo.w;obtain⟨o1,o2,o3,o4,o5⟩:=hlo;have hst:=dV l hlt;repeat first|refine aa ?_|intro _|refine da ?_
  rw[hw];refine GO.ef (Ef.d7 (rY l[i]!.2.2 ac ac) rfl) ae ?_;rintro _ L ⟨rfl,rfl⟩;repeat first|refine aa ?_|intro _|refine da ?_
  rw[hw];repeat first|refine aa ?_|intro _|refine da ?_
  refine⟨i+1,ac,ac,?_,Ent.refl _⟩;rw[aP i,hst];exact aj
 obtain rfl:i=l.length:=ac;rw[gM];repeat first|refine aa ?_|intro _|refine da ?_
 refine GO.ef (Ef.d7 (rY n h0 h2) rfl) ae ?_;rintro _ L ⟨rfl,rfl⟩;repeat first|refine aa ?_|intro _|refine da ?_
 refine G.loop (α:=Nat×(OA×Nat)×OA×Nat) (fun z=>z.1≤l.length) (fun z=>[(0,ab n),(1,.slice ad l.length c),(6,ab (lsum l)),(10,.slice z.2.1.1 z.1 z.2.1.2),(11,.slice z.2.2.1 z.1 z.2.2.2),(12,ab (n - cS z.1 (shQ l n))),(13,ab (z.1:Int))]) (fun z=>osl (encZ .i64) 1 tInt z.2.1.1 z.2.1.2 ((List.range z.1).map (shQ l n))::osl (encZ .i64) 1 tInt z.2.2.1 z.2.2.2 ((List.range z.1).map (shR l n))::L) (fun z=>l.length - z.1) (0,(none,0),none,0) (ao _) ?_ ((Ent.d8 (encZ .i64) 1 tInt).trans (Ent.d8 (encZ .i64) 1 tInt)) ?_
 ·rw[jA,fj];exact aj
 rintro⟨i,⟨a1,c1⟩,a2,c2⟩ hi;dsimp only at hi ⊢;have hql:((List.range i).map (shQ l n)).length=i:=by simp
 have hrl:((List.range i).map (shR l n)).length=i:=by simp
 have hsb:0≤cS i (shQ l n)∧cS i (shQ l n)≤n:=by
  have h3:cS l.length (shQ l n)≤n:=by
   have:=(lj (n:=n) hl hne).1
   rw[kf] at this;omega
  have h4:∀j,j≤l.length→0≤cS j (shQ l n):=by
   intro j;induction j with
   | zero=>intro _;exact bu _
   | succ j ih =>
    intro hj;rw[dU];have:=ih ac
    have:=(ji hl h0 h1 (show j<l.length by omega)).1
    omega
  have h5:∀d,i+d≤l.length→cS i (shQ l n)≤cS (i+d) (shQ l n):=by
   intro d;induction d with
   | zero=>intro _;exact bu _
   | succ d ih =>
    intro hd;have:=ih ac
    rw[show i+(d+1)=(i+d)+1 by omega,dU];have:=(ji hl h0 h1 (show i+d<l.length by omega)).1
    omega
  have h6:=h5 (l.length - i) ac;rw[show i+(l.length - i)=l.length by omega] at h6;exact⟨h4 i hi,ac⟩
 by_cases hlt:i<l.length
 case pos =>
  have hii:(i:Int).toNat=i:=aA i;have hw:(wts l)[(i:Int).toNat]! = l[i]!.2.2:=by rw[hii];exact mY hlt
  obtain⟨o1,o2,o3,o4,o5⟩:=hl _ (aI hlt);have hqb:=ji hl h0 h1 hlt;have eq:shQ l n i=n*l[i]!.2.2 / lsum l:=rfl;have er:shR l n i=n*l[i]!.2.2 % lsum l:=rfl;repeat first|refine aa ?_|intro _|refine da ?_
  rw[hw];refine GO.ef (Ef.d7 (uA n l[i]!.2.2 (lsum l) h0 h2 ac ac hs0 ac (by rw[←eq];omega)) rfl) ae ?_;rintro _ _⟨rfl,rfl⟩;rw[←eq,←er];repeat first|refine aa ?_|intro _|refine da ?_
  refine GO.ef (Ef.d8 (enc:=encZ .i64) (shQ l n i) rfl rfl rfl hql.symm rfl (by rfl) (mj _ _) ac ac) ae ?_;rintro _ _⟨a3,c3,rfl,rfl⟩;repeat first|refine aa ?_|intro _|refine da ?_
  refine GO.ef (Ef.d8 (enc:=encZ .i64) (shR l n i) rfl rfl rfl hrl.symm rfl (by rfl) (mj _ _) ac ac) ae ?_;rintro _ _⟨a4,c4,rfl,rfl⟩;repeat first|refine aa ?_|intro _|refine da ?_
  have e1:(List.range i).map (shQ l n)++[shQ l n i]=(List.range (i+1)).map (shQ l n):=by rw[eu,aZ];rfl
  have e2:(List.range i).map (shR l n)++[shR l n i]=(List.range (i+1)).map (shR l n):=by rw[eu,aZ];rfl
  rw[e1,e2];refine⟨(i+1,(a3,c3),a4,c4),by dsimp only;omega,by dsimp only;omega,?_,by exact ag⟩;dsimp only;rw[aP i,dU,show((List.range (i+1)).map (shQ l n)).length=i+1 by simp,show((List.range (i+1)).map (shR l n)).length=i+1 by simp,show n - (cS i (shQ l n)+shQ l n i)=n - cS i (shQ l n) - shQ l n i by omega];exact aj
 obtain rfl:i=l.length:=ac;have hle:n - cS l.length (shQ l n)=ft l n:=(kf l n).symm;rw[hle];obtain⟨hl1,hl2⟩:=lj (n:=n) hl hne;have hO0:(List.range l.length).map (shQ l n)=(List.range l.length).map (spO l n 0):=iB (fun k _=>by unfold spO;rw[if_neg ac];omega);have hR0:(List.range l.length).map (shR l n)=(List.range l.length).map (spR l n 0):=iB (fun k _=>by unfold spR;rw[if_neg ac]);rw[hO0,hR0];repeat first|refine aa ?_|intro _|refine da ?_
 refine G.loop (α:=Nat) (fun m=>(m:Int)≤ft l n) (fun m=>[(0,ab n),(1,.slice ad l.length c),(6,ab (lsum l)),(10,.slice a1 l.length c1),(11,.slice a2 l.length c2),(12,ab (ft l n - (m:Int)))]) (fun m=>osl (encZ .i64) 1 tInt a1 c1 ((List.range l.length).map (spO l n m))::osl (encZ .i64) 1 tInt a2 c2 ((List.range l.length).map (spR l n m))::L) (fun m=>(ft l n).toNat - m) 0 ac ?_ (Ent.refl _) ?_
 ·rw[show((0:Nat):Int)=0 from rfl,fj];exact aj
 intro m hm;have hxl:∀f:Nat→Int,((List.range l.length).map f).length=l.length:=fun f=>by simp
 by_cases hml:(m:Int)=ft l n
 ·have hO:(List.range l.length).map (spO l n m)=(List.range l.length).map (shC l n):=iB (fun k _=>by
   unfold spO shC;rw[nC,←hml];by_cases q:ej (shR l n) l.length k<m
   ·rw[if_pos q,if_pos ac]
   ·rw[if_neg q,if_neg ac])
  rw[hO];repeat first|refine aa ?_|intro _|refine da ?_
  exact KX.d7 ai ag ⟨a1,c1,rfl,rfl⟩
 have hmn:m<l.length:=ac;have hxO:=hxl (spO l n m);have hxR:=hxl (spR l n m);have hgO:∀k,k<l.length→((List.range l.length).map (spO l n m))[k]! = spO l n m k:=fun k hk=>gE hk;have hgR:∀k,k<l.length→((List.range l.length).map (spR l n m))[k]! = spR l n m k:=fun k hk=>gE hk;have hsO:=fun b (hb:b<l.length) h=>Ec (n:=n) (m:=m) hb h;have hsR:=fun b (hb:b<l.length) h=>Eb (n:=n) (m:=m) hb h;obtain⟨xs,hxs⟩:∃xs,xs=(List.range l.length).map (spO l n m):=⟨_,rfl⟩;obtain⟨ys,hys⟩:∃ys,ys=(List.range l.length).map (spR l n m):=⟨_,rfl⟩;rw[←hxs] at hxO hgO hsO ⊢;rw[←hys] at hxR hgR hsR ⊢;repeat first|refine aa ?_|intro _|refine da ?_
 refine G.loop (α:=Nat×Nat) (fun z=>z.1≤l.length∧z.2<z.1∧(∀j,j<z.1→ys[j]!≤ys[z.2]!)∧∀j,j<z.2→ys[j]! < ys[z.2]!) (fun z=>[(0,ab n),(1,.slice ad l.length c),(6,ab (lsum l)),(10,.slice a1 l.length c1),(11,.slice a2 l.length c2),(12,ab (ft l n - (m:Int))),(17,ab (z.2:Int)),(18,ab (z.1:Int))]) (fun _=>osl (encZ .i64) 1 tInt a1 c1 xs::osl (encZ .i64) 1 tInt a2 c2 ys::L) (fun z=>l.length - z.1) (1,0) ⟨hpos,Nat.zero_lt_one,fun j hj=>(show j=0 by omega)▸bu _,fun j hj=>absurd hj (cd j)⟩ aj (Ent.refl _) ?_;rintro⟨i,b⟩ ⟨i1,i2,i3,i4⟩;dsimp only at i1 i2 i3 i4 ⊢;have hbb:(b:Int).toNat=b:=aA b;by_cases hlt:i<l.length
 case pos =>
  have hii:(i:Int).toNat=i:=aA i;by_cases hc:ys[(b:Int).toNat]! < ys[(i:Int).toNat]!
  ·repeat first|refine aa ?_|intro _|refine da ?_
   rw[hbb,hii] at hc;refine⟨(i+1,i),⟨by dsimp only;omega,by dsimp only;omega,?_,?_⟩,by dsimp only;omega,?_,by exact ag⟩
   ·dsimp only;intro j hj;by_cases e:j=i
    ·subst e;exact bu _
    ·have:=i3 j ac;omega
   ·dsimp only;intro j hj;have:=i3 j hj
    omega
   ·dsimp only;rw[aP i];exact aj
  ·repeat first|refine aa ?_|intro _|refine da ?_
   rw[hbb,hii] at hc;refine⟨(i+1,b),⟨by dsimp only;omega,by dsimp only;omega,?_,i4⟩,by dsimp only;omega,?_,by exact ag⟩
   ·dsimp only;intro j hj;by_cases e:j=i
    ·subst e;omega
    ·exact i3 j ac
   ·dsimp only;rw[aP i];exact aj
 obtain rfl:i=l.length:=ac
 have hbest:ej (shR l n) l.length b=m:=by
  refine FA (fun k hk=>dg _ ac) hmn i2 ?_ ?_
  ·intro j hj;have:=i3 j hj
   rw[hgR j hj,hgR b i2] at this;exact this
  ·intro j hj;have:=i4 j hj
   rw[hgR j ac,hgR b i2] at this;exact this
 have hOs:=hsO b i2 hbest;have hRs:=hsR b i2 hbest
 have hOb:0≤spO l n m b∧spO l n m b≤1099511627776*2:=by
  have q1:=ji hl h0 h1 i2;obtain⟨o1,o2,o3,o4,o5⟩:=hl _ (aI i2);unfold spO;split<;>omega
 rw[←hgO b i2,←hbb] at hOs hOb;have hRs' : ys.set (b:Int).toNat (-1)=(List.range l.length).map (spR l n (m+1)):=by rw[hbb];exact hRs
 have hbl:(b:Int).toNat<xs.length:=ac;repeat first|refine aa ?_|intro _|refine da ?_
 rw[hOs,hRs'];refine⟨m+1,ac,ac,?_,by exact ag⟩;rw[aP m,show ft l n - ((m:Int)+1)=ft l n - (m:Int) - 1 by omega];exact aj
