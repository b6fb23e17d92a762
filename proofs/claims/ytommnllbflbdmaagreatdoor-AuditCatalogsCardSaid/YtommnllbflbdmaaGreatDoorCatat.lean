/- Lemmas. -/
import Derived.Test.YtommnllbflbdmaaGreatDoorCatas
set_option linter.all false
set_option maxHeartbeats 2000000
namespace Go.Proofs.YtommnllbflbdmaaGreatDoor
section
open Go.V
attribute [local irreducible] G GO GP GPW GPK Ev Ef EfR Ent CB GB V.Enters
def tM{α β:Type}{e1:α→LV}{e2:β→LV}{s1 s2:Nat}{a1 a2:OA}{x1:List α}{x2:List β}:∀ι h,Stars [isl e1 s1 a1 x1,isl e2 s2 a2 x2] ι h→Stars [isl e1 s1 a1 x1,isl e2 s2 a2 x2] ι Hp.emp:=by
 rintro ι h ⟨ι₀,h₁,h₂,a,b,c,d,e,ι₁,h₃,h₄,a',b',c',d',e',f'⟩;exact⟨ι₀,Hp.emp,Hp.emp,a,Hp.d8 _,Hp.d7 _,Hp.d7 _,e,ι₁,Hp.emp,Hp.emp,a',Hp.d8 _,Hp.d7 _,Hp.d7 _,e',trivial⟩
def wts(l:LL1):List Int:=l.map (fun x=>x.2.2)
def GV(l:LL1):(wts l).length=l.length:=by simp[wts]
def Ay{l:LL1}{k:Nat}(h:k<l.length):(wts l)[k]! = l[k]!.2.2:=eD _ h
def lV{l:LL1}{n:Int}(hl:∀x∈l,LotOk x)(h0:0≤n)(h1:n≤lsum l){k:Nat}(hk:k<l.length):0≤shQ l n k∧shQ l n k≤l[k]!.2.2:=by
 have hs:=jO hl hk;have hw:=hl _ (aL hk);unfold LotOk at hw;refine⟨jx (ed h0 ab) ab,?_⟩;unfold shQ;refine Int.ediv_le_of_le_mul hs ?_;rw[Int.mul_comm];exact Int.mul_le_mul_of_nonneg_left h1 ab
def uY{L:LH}(n w s:Int)(h0:0≤n)(h1:n≤1099511627776)(h2:0≤w)(h3:w≤1152921504606846976)(h4:0<s)(h5:s≤1152921504606846976)(hq:n*w / s≤1099511627776) :
  Tri ai 322 #[ac n,ac w,ac s] L (rtQ (.tuple #[.int .u64 (n*w / s),.int .u64 (n*w % s),ac 0]) L):=by
 obtain⟨nN,rfl⟩:∃nN:Nat,n=(nN:Int):=⟨n.toNat,ab⟩;obtain⟨wN,rfl⟩:∃wN:Nat,w=(wN:Int):=⟨w.toNat,ab⟩;obtain⟨sN,rfl⟩:∃sN:Nat,s=(sN:Int):=⟨s.toNat,ab⟩;have e1:(nN:Int)*(wN:Int) / (sN:Int)=((nN*wN / sN:Nat):Int):=by rw[Int.natCast_ediv,Int.natCast_mul]
 have e2:(nN:Int)*(wN:Int) % (sN:Int)=((nN*wN % sN:Nat):Int):=by rw[Int.natCast_emod,Int.natCast_mul]
 rw[e1] at hq;rw[e1,e2];exact wa nN wN sN ab ab ab ab ab
def vT{E cap:Nat}{ad:OA}{α:Type}[Inhabited α]{enc:α→Value}(h1:OneCell enc){xs:List α}{Lc:LH}{g:Nat}{cb:Array Value}(cf:α→α→Int)(hO:Go.Sort.SWO (ltOf cf))(a2:V.Enters ai g)(a0:∀ι h,Stars Lc ι h→Stars Lc ι Hp.emp)(a1:∀x y:α,Tri ai g (#[enc x,enc y]++cb) Lc (fun u _=>u=ac (cf x y)))(a3:xs.length<4611686018427387904) :
  Tri ai 323 #[ae ad xs.length cap,.func (.func g) #[] cb] (osl (fun x=>[enc x]) 1 E ad cap xs::Lc) (fun v L'=>v=.tuple #[]∧∃ys,eX cf xs ys∧L' = osl (fun x=>[enc x]) 1 E ad cap ys::Lc) :=
 Tri.e8 (ρ:=Tryz.sortI_ren) Tryz.sortI { Tryz.sortI with } h1 cf hO Iy a2 a0 a1 a3
def pT(n:Nat):(List.finRange n).map (fun i=>i.val)=List.range n:=by
 apply dZ
 ·simp
 ·intro i h1 h2;simp
def jE{f:Nat→Int}{n k:Nat}(h:k<n):((List.range n).map f)[k]! = f k:=by
 rw[getElem!_of (by simpa using h)];simp
def vp(R:Nat→Int)(n:Nat)(i j:Fin n):Int:=shCf ((List.range n).map R) i.val j.val
def od(R:Nat→Int)(n:Nat)(i j:Fin n):vp R n i j<0↔R j.val<R i.val∨(R j.val=R i.val∧i.val<j.val):=by
 unfold vp;rw[Hl,jE i.isLt,jE j.isLt]
def Eb(R:Nat→Int)(n:Nat):Go.Sort.SWO (ltOf (vp R n)) where
 irrefl x:=by simp only[ltOf,decide_eq_false_iff_not];rw[od];omega
 trans x y z h1 h2:=by simp only[ltOf,decide_eq_true_eq] at *;rw[od] at *;omega
 ntrans x y z h1 h2:=by simp only[ltOf,decide_eq_false_iff_not] at *;rw[od] at *;omega
abbrev tU64:Nat:=238
abbrev Bx:Nat:=352
abbrev wr:=ar6 [.ev 10,.ef 11,.ev 12,.ef 13,.ev 14,.ef 15]
def cM{φ ψ:Prop}(k:ψ)(h:Hid ψ→φ:=by intro k;(with_reducible apply G.d7);first|refine G.dr 100 23 wr (Hid.out k)):φ:=h ⟨k⟩
def MP{φ ψ:Prop}(k:ψ)(h:Hid ψ→φ:=by intro k;(repeat (first|refine aa ?_|intro zzz|refine cM ?_));(repeat revert zzz);exact Hid.out k):φ:=h ⟨k⟩
def BB{L:LH}(ad:OA)(c:Nat)(l:LL1)(n:Int)[hrd:Rds L ad Int (encZ .i64) 1 (wts l)](d6:l.length≤4096)(hl:∀x∈l,LotOk x)(b5:l≠[])(h0:0≤n)(h1:n≤lsum l)(h2:n≤1099511627776) :
  Tri ai 300 #[ac n,ae ad l.length c] L (fun v L'=>∃b3 a7,v=.tuple #[ae b3 l.length a7,ac 0]∧L' = osl (encZ .i64) 1 tInt b3 a7 ((List.range l.length).map (shC l n))::L):=by
 have a8:0<l.length:=List.length_pos_iff.2 b5;have e5:=GV l;have hs:=jO hl a8;have d0:=jH hl l.length (aI _);rw[jA] at d0;have hm:(l.length:Int)*1099511627776≤4096*1099511627776:=cF ab ag;refine Tri.bd ?_;refine MP ?_;intros;refine GO.ca (mj n) ?_;rintro _ L ⟨rfl,rfl⟩;rw[aZ (show ko n from⟨h0,h2⟩)];repeat first|refine G.sm 4 ?_|refine bF ?_|intro _|refine cM ?_
 refine G.d8 (α:=Unit) (fun _=>True) (fun _=>[(0,ac n),(1,ae ad l.length c),(6,ac (lsum l))]) (fun _=>L) ?_ ?_
 ·refine MP ?_;intros;refine G.loop (α:=Nat) (fun i=>i≤l.length) (fun i=>[(0,ac n),(1,ae ad l.length c),(6,ac (lsum (l.take i))),(21,ae ad l.length c),(22,ac l.length),(23,ac (i:Int))]) (fun _=>L) (fun i=>l.length - i) 0 (az _) an (Ent.refl _) ?_;intro i hi;by_cases a0:i<l.length
  case neg =>
   have b1:i=l.length:=ab;subst b1;rw[jA];refine MP ?_;intros;exact⟨(),trivial,an,Ent.refl _⟩
  have a6:(i:Int).toNat=i:=ab;have a9:=hl _ (aL a0);unfold LotOk at a9;have c0:=jH hl i ab;have c1:=fC l a0;have c4:(i:Int)*1099511627776≤4096*1099511627776:=cF ab ag;refine MP ?_;intros;rw[a6,Ay a0];refine GO.ca (mj l[i]!.2.2) ?_;rintro _ L ⟨rfl,rfl⟩;rw[aZ (show ko l[i]!.2.2 from⟨ab,ab⟩)];refine MP ?_;intros;refine⟨i+1,ab,ab,?_,Ent.refl _⟩;rw[c1,aU i];exact an
 rintro _ _;refine MP ?_;intros;refine GO.ef (Ef.makeSlice (encZ .i64) 0 rfl rfl rfl ab ab ab) ag ?_;rintro _ _⟨bp,rfl,rfl⟩;rw[aD,←kj l.length (shQ l n)];refine MP ?_;intros;refine GO.ef (Ef.makeSlice (encZ .u64) 0 rfl rfl rfl ab ab ab) ag ?_;rintro _ _⟨br,rfl,rfl⟩;rw[aD,←kj l.length (shR l n)];refine MP ?_;intros;rename_i bv;refine GO.ef (Ef.makeSlice (encZ .i64) 0 rfl rfl rfl ab ab ab) ag ?_;rintro _ _⟨bo,rfl,rfl⟩;rw[aD,←kj l.length (fun k:Nat=>(k:Int))];repeat first|refine G.sm 19 ?_|refine bF ?_|intro _|refine cM ?_
 refine G.d8 (α:=Unit) (fun _=>True) (fun _=>[(9,ae (some ⟨bp,0,none⟩) l.length l.length),(10,aq bv),(11,ae (some ⟨bo,0,none⟩) l.length l.length),(12,ac (iI l n))])
  (fun _=>osl (encZ .i64) 1 tInt (some ⟨bp,0,none⟩) l.length ((List.range l.length).map (shQ l n))::obj bv Bx [ae (some ⟨br,0,none⟩) l.length l.length]::osl (encZ .u64) 1 tU64 (some ⟨br,0,none⟩) l.length ((List.range l.length).map (shR l n))::osl (encZ .i64) 1 tInt (some ⟨bo,0,none⟩) l.length ((List.range l.length).map (fun k:Nat=>(k:Int)))::L) ?_ ?_
 ·refine MP ?_;intros
  refine G.loop (α:=Nat) (fun i=>i≤l.length) (fun i=>[(0,ac n),(1,ae ad l.length c),(6,ac (lsum l)),(9,ae (some ⟨bp,0,none⟩) l.length l.length),(10,aq bv),(11,ae (some ⟨bo,0,none⟩) l.length l.length),(12,ac (n - eQ i (shQ l n))),(49,ac l.length),(50,ac (i:Int))])
   (fun i=>osl (encZ .i64) 1 tInt (some ⟨bp,0,none⟩) l.length (gj l.length i (shQ l n))::obj bv Bx [ae (some ⟨br,0,none⟩) l.length l.length]::osl (encZ .u64) 1 tU64 (some ⟨br,0,none⟩) l.length (gj l.length i (shR l n))::osl (encZ .i64) 1 tInt (some ⟨bo,0,none⟩) l.length (gj l.length i (fun k:Nat=>(k:Int)))::L) (fun i=>l.length - i) 0 (az _) ?_ ah ?_
  ·rw[mo,Int.sub_zero];exact an
  intro i hi;have d2:=jR l.length i (shQ l n);have d3:=jR l.length i (shR l n);have d4:=jR l.length i (fun k:Nat=>(k:Int));by_cases a0:i<l.length
  case neg =>
   have b1:i=l.length:=ab;subst b1;rw[kV,kV,kV,←pu];refine MP ?_;intros;exact⟨(),trivial,an,by exact ah⟩
  have a6:(i:Int).toNat=i:=ab;have a9:=hl _ (aL a0);unfold LotOk at a9
  have e4:0≤eQ i (shQ l n)∧eQ i (shQ l n)≤lsum (l.take i):=by
   rw[show lsum (l.take i)=eQ i (fun k=>l[k]!.2.2) by unfold eQ;rw[mw l i hi]];refine⟨?_,lA (fun k hk=>(lV hl h0 h1 ab).2)⟩;have:=lA (n:=i) (f:=fun _=>0) (g:=shQ l n) (fun k hk=>(lV hl h0 h1 ab).1)
   rw[ny] at this;omega
  have c0:=jH hl i ab;have c4:(i:Int)*1099511627776≤4096*1099511627776:=cF ab ag;have d1:=gC i (shQ l n);obtain⟨q1,q2⟩:=lV hl h0 h1 a0;have e2:0≤shR l n i:=eA _ ab;have e3:shR l n i<lsum l:=dS _ hs;refine MP ?_;intros;rw[a6,Ay a0];refine GO.cr (uY n l[i]!.2.2 (lsum l) h0 h2 ab ab hs ab (by have:=q2;unfold shQ at this;omega)) ?_;rw[show n*l[i]!.2.2 / lsum l=shQ l n i from rfl,show n*l[i]!.2.2 % lsum l=shR l n i from rfl];refine MP ?_;intros;have h3:(gj l.length i (fun k:Nat=>(k:Int))).set i (i:Int)=gj l.length (i+1) (fun k:Nat=>(k:Int)):=kU _ a0;rw[a6,kU (shQ l n) a0,kU (shR l n) a0,h3];refine⟨i+1,ab,ab,?_,by exact ah⟩;rw[d1,show n - (eQ i (shQ l n)+shQ l n i)=n - eQ i (shQ l n) - shQ l n i by omega,aU i];exact an
 rintro _ _;obtain⟨c3,d5⟩:=ug (n:=n) hl b5;haveI:Inhabited (Fin l.length):=⟨⟨0,a8⟩⟩
 have b0:((List.range l.length).map (shR l n)).length=l.length:=by simp
 have c8:(List.range l.length).map (fun k:Nat=>(k:Int))=(List.finRange l.length).map (fun i:Fin l.length=>(i.val:Int)):=by
  rw[←pT,eM];rfl
 have b4:(List.finRange l.length).length=l.length:=by simp
 rw[c8];refine G.ent (L':=osl (fun x:Fin l.length=>[Value.int .i64 (x.val:Int)]) 1 tInt (some ⟨bo,0,none⟩) l.length (List.finRange l.length)::isl qB 1 (some ⟨bv,0,none⟩) [⟨some ⟨br,0,none⟩,((List.range l.length).map (shR l n)).length,l.length⟩]::isl (encZ .u64) 1 (some ⟨br,0,none⟩) ((List.range l.length).map (shR l n))::osl (encZ .i64) 1 tInt (some ⟨bp,0,none⟩) l.length ((List.range l.length).map (shQ l n))::L) ?_ ?_
 ·refine(Ent.frz (some ⟨br,0,none⟩)).trans ?_;refine(Ent.at (A:=obj bv Bx [ae (some ⟨br,0,none⟩) l.length l.length]) (Ent.e9 (enc:=qB) (sz:=1) (xs:=[⟨some ⟨br,0,none⟩,((List.range l.length).map (shR l n)).length,l.length⟩]) (by rw[b0];rfl) rfl (fun _ _=>rfl) bH)).trans ?_;refine(Ent.frz (some ⟨bv,0,none⟩)).trans ?_;refine(Ent.at (A:=osl (encZ .i64) 1 tInt (some ⟨bo,0,none⟩) l.length ((List.finRange l.length).map (fun i:Fin l.length=>(i.val:Int)))) (Ent.o8 (f:=fun i:Fin l.length=>(i.val:Int)) (enc:=encZ .i64))).trans ?_;show Ent (osl (fun x:Fin l.length=>[Value.int .i64 (x.val:Int)]) 1 tInt (some ⟨bo,0,none⟩) l.length (List.finRange l.length)::_) _;exact ah
 refine MP ?_;intros;have a4:=vT (E:=tInt) (cap:=(List.finRange l.length).length) (ad:=some ⟨bo,0,none⟩) (enc:=fun i:Fin l.length=>Value.int .i64 (i.val:Int)) (by intro x;rfl) (xs:=List.finRange l.length) (Lc:=[isl qB 1 (some ⟨bv,0,none⟩) [⟨some ⟨br,0,none⟩,((List.range l.length).map (shR l n)).length,l.length⟩],isl (encZ .u64) 1 (some ⟨br,0,none⟩) ((List.range l.length).map (shR l n))]) (g:=324) (cb:=#[aq bv]) (vp (shR l n) l.length) (Eb _ _) en324.1 tM (fun x y=>yw bv (some ⟨br,0,none⟩) l.length ((List.range l.length).map (shR l n)) x.val y.val (by rw[b0];exact x.isLt) (by rw[b0];exact y.isLt) (by rw[b0];omega)) (by rw[b4];omega);rw[b4] at a4;(first|refine GO.ef (Ef.call (a4) rfl cT) ag ?_);rintro _ _⟨_,⟨rfl,ys,⟨b7,b8⟩,rfl⟩,hL⟩;simp only[ak,aj] at hL;subst hL
 have a2:(ys.map (fun i=>i.val)).Perm (List.range l.length):=by
  rw[←pT];exact b7.map _
 have a5:(ys.map (fun i=>i.val)).Pairwise (rkLt (shR l n)):=by
  refine wg a2 ?_;rw[List.pairwise_map];refine b8.imp ?_;intro a b b9;rw[od] at b9;omega
 obtain⟨o,ho⟩:∃o,o=ys.map (fun i=>i.val):=⟨_,rfl⟩;rw[←ho] at a2 a5;have c5:o.length=l.length:=by have:=a2.length_eq;simpa using this
 have e0:(o.map (fun k:Nat=>(k:Int))).length=l.length:=by simpa using c5
 have c7:∀i,i<o.length→(o.map (fun k:Nat=>(k:Int)))[i]! = (o[i]! : Int):=fun i hi=>eD _ hi;have c6:∀i,i<o.length→o[i]! < l.length:=fun i hi=>List.mem_range.1 (a2.mem_iff.1 (aL hi));refine GO.ent (L':=osl (encZ .i64) 1 tInt (some ⟨bo,0,none⟩) l.length (o.map (fun k:Nat=>(k:Int)))::osl (encZ .i64) 1 tInt (some ⟨bp,0,none⟩) l.length ((List.range l.length).map (shQ l n))::L) ?_ ?_
 ·have e:ys.map (fun i:Fin l.length=>(i.val:Int))=o.map (fun k:Nat=>(k:Int)):=by rw[ho,eM];rfl
  rw[←e];refine(show Ent _ (osl (encZ .i64) 1 tInt (some ⟨bo,0,none⟩) l.length (ys.map (fun i:Fin l.length=>(i.val:Int)))::_) from Ent.o7 (f:=fun i:Fin l.length=>(i.val:Int)) (enc:=encZ .i64)).trans ?_;exact ah
 clear b8 b7 ho ys;refine MP ?_;intros
 refine G.loop (α:=Nat) (fun i=>(i:Int)≤iI l n) (fun i=>[(9,ae (some ⟨bp,0,none⟩) l.length l.length),(11,ae (some ⟨bo,0,none⟩) l.length l.length),(85,ac (iI l n)),(86,ac (i:Int))])
  (fun i=>osl (encZ .i64) 1 tInt (some ⟨bo,0,none⟩) l.length (o.map (fun k:Nat=>(k:Int)))::osl (encZ .i64) 1 tInt (some ⟨bp,0,none⟩) l.length ((List.range l.length).map (fun k=>shQ l n k+if k∈o.take i then 1 else 0))::L) (fun i=>(iI l n).toNat - i) 0 c3 an ?_ ?_
 ·have e:(List.range l.length).map (fun k=>shQ l n k+if k∈o.take 0 then 1 else 0)=(List.range l.length).map (shQ l n):=dm (fun k _=>by simp);rw[e];exact ah
 intro i hi;by_cases a0:(i:Int)<iI l n
 case neg =>
  have e:(List.range l.length).map (fun k=>shQ l n k+if k∈o.take i then 1 else 0)=(List.range l.length).map (shC l n):=by
   apply dm;intro k hk;have c2:=List.mem_range.1 hk;unfold shC;rw[vX];congr 1;have h3:=iH a2 a5 (m:=i) c2;by_cases h4:jI (shR l n) l.length k<i
   ·rw[if_pos (h3.2 h4),if_pos ab]
   ·rw[if_neg (fun h=>h4 (h3.1 h)),if_neg ab]
  rw[e];refine MP ?_;intros;exact KX.en ⟨some ⟨bp,0,none⟩,l.length,rfl,rfl⟩
 have a6:(i:Int).toNat=i:=ab;have a3:i<o.length:=ab;have a1:=c6 i a3;have e1:((List.range l.length).map (fun k=>shQ l n k+if k∈o.take i then 1 else 0)).length=l.length:=by simp
 have c9:((List.range l.length).map (fun k=>shQ l n k+if k∈o.take i then 1 else 0))[o[i]!]! = shQ l n o[i]!:=by
  rw[jE a1,if_neg,Int.add_zero];intro b2;have h3:=(iH a2 a5 a1).1 b2;rw[getElem!_of a3,li a2 a5 a3] at h3;omega
 obtain⟨q1,q2⟩:=lV hl h0 h1 a1;have a9:=hl _ (aL a1);unfold LotOk at a9;refine MP ?_;intros;rw[a6,c7 i a3];have b6:((o[i]! : Nat):Int).toNat=o[i]!:=ab;refine MP ?_;intros;rw[b6,c9];refine MP ?_;intros
 have e:((List.range l.length).map (fun k=>shQ l n k+if k∈o.take i then 1 else 0)).set o[i]! (shQ l n o[i]! + 1)=(List.range l.length).map (fun k=>shQ l n k+if k∈o.take (i+1) then 1 else 0):=by
  apply dZ
  ·simp
  ·intro k h3 h4;have hk:k<l.length:=by simpa using h4
   rw[List.getElem_set];simp only[dY,List.getElem_range];have m1:=iH a2 a5 (m:=i) hk;have m2:=iH a2 a5 (m:=i+1) hk;by_cases h5:o[i]! = k
   ·subst h5;have h6:jI (shR l n) l.length o[i]! = i:=by rw[getElem!_of a3];exact li a2 a5 a3
    rw[if_pos rfl,if_pos (m2.2 ab)]
   ·rw[if_neg h5];congr 1
    have h6:jI (shR l n) l.length k≠i:=by
     intro h7;refine h5 (Eh (R:=shR l n) a1 hk ?_);rw[h7,getElem!_of a3];exact li a2 a5 a3
    by_cases h7:jI (shR l n) l.length k<i
    ·rw[if_pos (m1.2 h7),if_pos (m2.2 ab)]
    ·rw[if_neg (fun h=>h7 (m1.1 h)),if_neg (fun h=>absurd (m2.1 h) ab)]
 rw[b6,e];refine⟨i+1,ab,ab,?_,by exact ah⟩;rw[aU i];exact an
instance:DecidablePred LotOk:=fun l=>by unfold LotOk;infer_instance
def gm(xs:LL1):Prop:=(∀x∈xs,LotOk x)∧xs.length≤4096
instance (xs:LL1):Decidable (gm xs):=by unfold gm;infer_instance
def insS(f:Int)(z:LL1×LL1×Int×Int)(x:Lot):LL1×LL1×Int×Int :=
 if x.1<f∨(x.1=f∧x.2.1+x.2.2<z.2.2.1) then(z.1++[x],z.2)
 else if f<x.1∨z.2.2.2<x.2.1 then(z.1,z.2.1++[x],z.2.2)
 else(z.1,z.2.1,min z.2.2.1 x.2.1,max z.2.2.2 (x.2.1+x.2.2))
def insG(s:LL1)(l:Lot):LL1×LL1×Int×Int:=s.foldl (insS l.1) ([],[],l.2.1,l.2.1+l.2.2)
def insL(s:LL1)(l:Lot):LL1:=(insG s l).1++[(l.1,(insG s l).2.2.1,(insG s l).2.2.2 - (insG s l).2.2.1)]++(insG s l).2.1
structure InsI (l:Lot) (n:Nat) (z:LL1×LL1×Int×Int):Prop where
 len:z.1.length+z.2.1.length≤n
 ok1:∀x∈z.1,LotOk x
 ok2:∀x∈z.2.1,LotOk x
 lo:0≤z.2.2.1∧z.2.2.1≤l.2.1
 hi:l.2.1+l.2.2≤z.2.2.2∧z.2.2.2≤1099511627776
def InsI.step{l:Lot}{n:Nat}{z:LL1×LL1×Int×Int}(h:InsI l n z){x:Lot}(hx:LotOk x):InsI l (n+1) (insS l.1 z x):=by
 obtain⟨h1,h2,h3,h4,h5⟩:=h;have a1:=hx;unfold LotOk at a1
 have a0:∀{t:LL1},(∀y∈t,LotOk y)→∀y∈t++[x],LotOk y:=fun ht y hy=>by
  rcases List.mem_append.1 hy with q|q
  ·exact ht y q
  ·rw[List.mem_singleton.1 q];exact hx
 unfold insS;split
 ·exact⟨by simp only[ax,aG];omega,a0 h2,h3,h4,h5⟩
 ·split
  ·exact⟨by simp only[ax,aG];omega,h2,a0 h3,h4,h5⟩
  ·exact⟨by dsimp only;omega,h2,h3,by dsimp only;omega,by dsimp only;omega⟩
def EG{s:LL1}{l:Lot}{i:Nat}(h:i<s.length):insG (s.take (i+1)) l=insS l.1 (insG (s.take i) l) s[i]!:=by
 unfold insG;rw[aC h,cB,getElem!_of h];rfl
def xm{s:LL1}{l:Lot}(hl:LotOk l)(hs:∀x∈s,LotOk x):∀i,i≤s.length→InsI l i (insG (s.take i) l)
 | 0,_=>by
  unfold LotOk at hl;exact⟨aI _,(fun _ h=>by cases h),(fun _ h=>by cases h),⟨hl.2.1,bG _⟩,⟨bG _,by show l.2.1+l.2.2≤_;omega⟩⟩
 | i+1,h=>by
  rw[EG ab];exact(xm hl hs i ab).step (hs _ (aL ab))
def Hz{s:LL1}{l:Lot}(hl:LotOk l)(hs:∀x∈s,LotOk x):(insL s l).length≤s.length+1∧∀x∈insL s l,LotOk x:=by
 have h:=xm hl hs s.length (aI _);rw[cd] at h;obtain⟨h1,h2,h3,h4,h5⟩:=h;unfold LotOk at hl;refine⟨by unfold insL;simp only[ax,aG];omega,fun x hx=>?_⟩;unfold insL at hx;rcases List.mem_append.1 hx with hx|hx
 ·rcases List.mem_append.1 hx with hx|hx
  ·exact h2 x hx
  ·rw[List.mem_singleton.1 hx];unfold LotOk;dsimp only;omega
 ·exact h3 x hx
