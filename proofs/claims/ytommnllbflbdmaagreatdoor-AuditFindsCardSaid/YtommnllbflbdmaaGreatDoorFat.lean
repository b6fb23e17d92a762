/- Lemmas. -/
import Derived.Test.YtommnllbflbdmaaGreatDoorFas
set_option linter.all false
set_option maxHeartbeats 4000000
namespace Go.Proofs.YtommnllbflbdmaaGreatDoor
section
open Go.V
attribute [local irreducible] G GO GP GPW GPK Ev Ef EfR Ent CB GB V.Enters
def uH{α β:Type}{e1:α→LV}{e2:β→LV}{s1 s2:Nat}{a1 a2:OA}{x1:List α}{x2:List β}:∀ι h,Stars [isl e1 s1 a1 x1,isl e2 s2 a2 x2] ι h→Stars [isl e1 s1 a1 x1,isl e2 s2 a2 x2] ι Hp.emp:=by
 rintro ι h ⟨ι₀,h₁,h₂,a,b,c,d,e,ι₁,h₃,h₄,a',b',c',d',e',f'⟩;exact⟨ι₀,Hp.emp,Hp.emp,a,Hp.d8 _,Hp.d7 _,Hp.d7 _,e,ι₁,Hp.emp,Hp.emp,a',Hp.d8 _,Hp.d7 _,Hp.d7 _,e',trivial⟩
def wts(l:LL):List Int:=l.map (fun x=>x.2.2)
def um(l:LL):(wts l).length=l.length:=by simp[wts]
def nX{l:LL}{k:Nat}(h:k<l.length):(wts l)[k]! = l[k]!.2.2:=dI _ h
def jC{l:LL}{n:Int}(hl:∀x∈l,LotOk x)(h0:0≤n)(h1:n≤lsum l){k:Nat}(hk:k<l.length):0≤shQ l n k∧shQ l n k≤l[k]!.2.2:=by
 have hs:=jy hl hk;have hw:=hl _ (aJ hk);unfold LotOk at hw;refine⟨jr (dH h0 ab) ab,?_⟩;unfold shQ;refine Int.ediv_le_of_le_mul hs ?_;rw[Int.mul_comm];exact Int.mul_le_mul_of_nonneg_left h1 ab
def wa{L:LH}(n w s:Int)(h0:0≤n)(h1:n≤1099511627776)(h2:0≤w)(h3:w≤1152921504606846976)(h4:0<s)(h5:s≤1152921504606846976)(hq:n*w / s≤1099511627776) :
  Tri ai 322 #[ac n,ac w,ac s] L (rtQ (.tuple #[.int .u64 (n*w / s),.int .u64 (n*w % s),ac 0]) L):=by
 obtain⟨nN,rfl⟩:∃nN:Nat,n=(nN:Int):=⟨n.toNat,ab⟩;obtain⟨wN,rfl⟩:∃wN:Nat,w=(wN:Int):=⟨w.toNat,ab⟩;obtain⟨sN,rfl⟩:∃sN:Nat,s=(sN:Int):=⟨s.toNat,ab⟩;have e1:(nN:Int)*(wN:Int) / (sN:Int)=((nN*wN / sN:Nat):Int):=by rw[Int.natCast_ediv,gB]
 have e2:(nN:Int)*(wN:Int) % (sN:Int)=((nN*wN % sN:Nat):Int):=by rw[Int.natCast_emod,gB]
 rw[e1] at hq;rw[e1,e2];exact xf nN wN sN ab ab ab ab ab
def wY{E cap:Nat}{ad:OA}{α:Type}[Inhabited α]{enc:α→Value}(h1:OneCell enc){xs:List α}{Lc:LH}{g:Nat}{cb:Array Value}(cf:α→α→Int)(hO:Go.Sort.SWO (ltOf cf))(a2:V.Enters ai g)(a0:∀ι h,Stars Lc ι h→Stars Lc ι Hp.emp)(a1:∀x y:α,Tri ai g (#[enc x,enc y]++cb) Lc (fun u _=>u=ac (cf x y)))(a3:xs.length<4611686018427387904) :
  Tri ai 323 #[ah ad xs.length cap,.func (.func g) #[] cb] (osl (fun x=>[enc x]) 1 E ad cap xs::Lc) (fun v L'=>v=.tuple #[]∧∃ys,fj cf xs ys∧L' = osl (fun x=>[enc x]) 1 E ad cap ys::Lc) :=
 Tri.d9 (ρ:=Tryz.sortI_ren) Tryz.sortI { Tryz.sortI with } h1 cf hO JF a2 a0 a1 a3
def qC(n:Nat):(List.finRange n).map (fun i=>i.val)=List.range n:=by
 apply dd
 ·simp
 ·intro i h1 h2;simp
def hJ{f:Nat→Int}{n k:Nat}(h:k<n):((List.range n).map f)[k]! = f k:=by
 rw[getElem!_of (by simpa using h)];simp
def ww(R:Nat→Int)(n:Nat)(i j:Fin n):Int:=shCf ((List.range n).map R) i.val j.val
def oG(R:Nat→Int)(n:Nat)(i j:Fin n):ww R n i j<0↔R j.val<R i.val∨(R j.val=R i.val∧i.val<j.val):=by
 unfold ww;rw[It,hJ i.isLt,hJ j.isLt]
def Fj(R:Nat→Int)(n:Nat):Go.Sort.SWO (ltOf (ww R n)) where
 irrefl x:=by simp only[ltOf,decide_eq_false_iff_not];rw[oG];omega
 trans x y z h1 h2:=by simp only[ltOf,decide_eq_true_eq] at *;rw[oG] at *;omega
 ntrans x y z h1 h2:=by simp only[ltOf,decide_eq_false_iff_not] at *;rw[oG] at *;omega
abbrev tU64:Nat:=238
abbrev CF:Nat:=352
abbrev xz:=aH2 [.ev 10,.ef 11,.ev 12,.ef 13,.ev 14,.ef 15]
def dc{φ ψ:Prop}(k:ψ)(h:Hid ψ→φ:=by intro k;(with_reducible apply G.d7);first|refine G.dr 100 23 xz (Hid.out k)):φ:=h ⟨k⟩
def Oh{φ ψ:Prop}(k:ψ)(h:Hid ψ→φ:=by intro k;(repeat (first|refine aa ?_|intro zzz|refine dc ?_));(repeat revert zzz);exact Hid.out k):φ:=h ⟨k⟩
def CI{L:LH}(ad:OA)(c:Nat)(l:LL)(n:Int)[e4:Rds L ad Int (encZ .i64) 1 (wts l)](d6:l.length≤4096)(hl:∀x∈l,LotOk x)(b5:l≠[])(h0:0≤n)(h1:n≤lsum l)(h2:n≤1099511627776) :
  Tri ai 300 #[ac n,ah ad l.length c] L (fun v L'=>∃b3 a7,v=.tuple #[ah b3 l.length a7,ac 0]∧L' = osl (encZ .i64) 1 tInt b3 a7 ((List.range l.length).map (shC l n))::L):=by
 have a8:0<l.length:=List.length_pos_iff.2 b5;have e6:=um l;have hs:=jy hl a8;have d0:=gZ hl l.length (aB _);rw[im] at d0;have hm:(l.length:Int)*1099511627776≤4096*1099511627776:=cd ab ae;refine Tri.bd ?_;refine Oh ?_;intros;refine GO.ca (mA n) ?_;rintro _ L ⟨rfl,rfl⟩;rw[aU (show ko n from⟨h0,h2⟩)];repeat first|refine G.sm 4 ?_|refine bV ?_|intro _|refine dc ?_
 refine G.d8 (α:=Unit) (fun _=>True) (fun _=>[(0,ac n),(1,ah ad l.length c),(6,ac (lsum l))]) (fun _=>L) ?_ ?_
 ·refine Oh ?_;intros;refine G.loop (α:=Nat) (fun i=>i≤l.length) (fun i=>[(0,ac n),(1,ah ad l.length c),(6,ac (lsum (l.take i))),(21,ah ad l.length c),(22,ac l.length),(23,ac (i:Int))]) (fun _=>L) (fun i=>l.length - i) 0 (ax _) av (Ent.refl _) ?_;intro i hi;by_cases a0:i<l.length
  case neg =>
   have b1:i=l.length:=ab;subst b1;rw[im];refine Oh ?_;intros;exact⟨(),trivial,av,Ent.refl _⟩
  have a6:(i:Int).toNat=i:=ab;have a9:=hl _ (aJ a0);unfold LotOk at a9;have c0:=gZ hl i ab;have c1:=eK l a0;have c4:(i:Int)*1099511627776≤4096*1099511627776:=cd ab ae;refine Oh ?_;intros;rw[a6,nX a0];refine GO.ca (mA l[i]!.2.2) ?_;rintro _ L ⟨rfl,rfl⟩;rw[aU (show ko l[i]!.2.2 from⟨ab,ab⟩)];refine Oh ?_;intros;refine⟨i+1,ab,ab,?_,Ent.refl _⟩;rw[c1,aY i];exact av
 rintro _ _;refine Oh ?_;intros;refine GO.ef (Ef.makeSlice (encZ .i64) 0 rfl rfl rfl ab ab ab) ae ?_;rintro _ _⟨bp,rfl,rfl⟩;rw[aC,←km l.length (shQ l n)];refine Oh ?_;intros;refine GO.ef (Ef.makeSlice (encZ .u64) 0 rfl rfl rfl ab ab ab) ae ?_;rintro _ _⟨br,rfl,rfl⟩;rw[aC,←km l.length (shR l n)];refine Oh ?_;intros;rename_i bv;refine GO.ef (Ef.makeSlice (encZ .i64) 0 rfl rfl rfl ab ab ab) ae ?_;rintro _ _⟨bo,rfl,rfl⟩;rw[aC,←km l.length (fun k:Nat=>(k:Int))];repeat first|refine G.sm 19 ?_|refine bV ?_|intro _|refine dc ?_
 refine G.d8 (α:=Unit) (fun _=>True) (fun _=>[(9,ah (some ⟨bp,0,none⟩) l.length l.length),(10,ay bv),(11,ah (some ⟨bo,0,none⟩) l.length l.length),(12,ac (gg l n))])
  (fun _=>osl (encZ .i64) 1 tInt (some ⟨bp,0,none⟩) l.length ((List.range l.length).map (shQ l n))::obj bv CF [ah (some ⟨br,0,none⟩) l.length l.length]::osl (encZ .u64) 1 tU64 (some ⟨br,0,none⟩) l.length ((List.range l.length).map (shR l n))::osl (encZ .i64) 1 tInt (some ⟨bo,0,none⟩) l.length ((List.range l.length).map (fun k:Nat=>(k:Int)))::L) ?_ ?_
 ·refine Oh ?_;intros
  refine G.loop (α:=Nat) (fun i=>i≤l.length) (fun i=>[(0,ac n),(1,ah ad l.length c),(6,ac (lsum l)),(9,ah (some ⟨bp,0,none⟩) l.length l.length),(10,ay bv),(11,ah (some ⟨bo,0,none⟩) l.length l.length),(12,ac (n - de i (shQ l n))),(49,ac l.length),(50,ac (i:Int))])
   (fun i=>osl (encZ .i64) 1 tInt (some ⟨bp,0,none⟩) l.length (gC l.length i (shQ l n))::obj bv CF [ah (some ⟨br,0,none⟩) l.length l.length]::osl (encZ .u64) 1 tU64 (some ⟨br,0,none⟩) l.length (gC l.length i (shR l n))::osl (encZ .i64) 1 tInt (some ⟨bo,0,none⟩) l.length (gC l.length i (fun k:Nat=>(k:Int)))::L) (fun i=>l.length - i) 0 (ax _) ?_ ag ?_
  ·rw[kg,fE];exact av
  intro i hi;have d2:=kd l.length i (shQ l n);have d3:=kd l.length i (shR l n);have d4:=kd l.length i (fun k:Nat=>(k:Int));by_cases a0:i<l.length
  case neg =>
   have b1:i=l.length:=ab;subst b1;rw[kZ,kZ,kZ,←kO];refine Oh ?_;intros;exact⟨(),trivial,av,by exact ag⟩
  have a6:(i:Int).toNat=i:=ab;have a9:=hl _ (aJ a0);unfold LotOk at a9
  have e5:0≤de i (shQ l n)∧de i (shQ l n)≤lsum (l.take i):=by
   rw[show lsum (l.take i)=de i (fun k=>l[k]!.2.2) by unfold de;rw[mF l i hi]];refine⟨?_,lB (fun k hk=>(jC hl h0 h1 ab).2)⟩;have:=lB (n:=i) (f:=fun _=>0) (g:=shQ l n) (fun k hk=>(jC hl h0 h1 ab).1)
   rw[nK] at this;omega
  have c0:=gZ hl i ab;have c4:(i:Int)*1099511627776≤4096*1099511627776:=cd ab ae;have d1:=eJ i (shQ l n);obtain⟨q1,q2⟩:=jC hl h0 h1 a0;have e2:0≤shR l n i:=dC _ ab;have e3:shR l n i<lsum l:=dE _ hs;refine Oh ?_;intros;rw[a6,nX a0];refine GO.cr (wa n l[i]!.2.2 (lsum l) h0 h2 ab ab hs ab (by have:=q2;unfold shQ at this;omega)) ?_;rw[show n*l[i]!.2.2 / lsum l=shQ l n i from rfl,show n*l[i]!.2.2 % lsum l=shR l n i from rfl];refine Oh ?_;intros;have h3:(gC l.length i (fun k:Nat=>(k:Int))).set i (i:Int)=gC l.length (i+1) (fun k:Nat=>(k:Int)):=kY _ a0;rw[a6,kY (shQ l n) a0,kY (shR l n) a0,h3];refine⟨i+1,ab,ab,?_,by exact ag⟩;rw[d1,show n - (de i (shQ l n)+shQ l n i)=n - de i (shQ l n) - shQ l n i by omega,aY i];exact av
 rintro _ _;obtain⟨c3,d5⟩:=me (n:=n) hl b5;haveI:Inhabited (Fin l.length):=⟨⟨0,a8⟩⟩
 have b0:((List.range l.length).map (shR l n)).length=l.length:=by simp
 have c8:(List.range l.length).map (fun k:Nat=>(k:Int))=(List.finRange l.length).map (fun i:Fin l.length=>(i.val:Int)):=by
  rw[←qC,dW];rfl
 have b4:(List.finRange l.length).length=l.length:=by simp
 rw[c8];refine G.ent (L':=osl (fun x:Fin l.length=>[Value.int .i64 (x.val:Int)]) 1 tInt (some ⟨bo,0,none⟩) l.length (List.finRange l.length)::isl ri 1 (some ⟨bv,0,none⟩) [⟨some ⟨br,0,none⟩,((List.range l.length).map (shR l n)).length,l.length⟩]::isl (encZ .u64) 1 (some ⟨br,0,none⟩) ((List.range l.length).map (shR l n))::osl (encZ .i64) 1 tInt (some ⟨bp,0,none⟩) l.length ((List.range l.length).map (shQ l n))::L) ?_ ?_
 ·refine(Ent.frz (some ⟨br,0,none⟩)).trans ?_;refine(Ent.at (A:=obj bv CF [ah (some ⟨br,0,none⟩) l.length l.length]) (Ent.f7 (enc:=ri) (sz:=1) (xs:=[⟨some ⟨br,0,none⟩,((List.range l.length).map (shR l n)).length,l.length⟩]) (by rw[b0];rfl) rfl (fun _ _=>rfl) ce)).trans ?_;refine(Ent.frz (some ⟨bv,0,none⟩)).trans ?_;refine(Ent.at (A:=osl (encZ .i64) 1 tInt (some ⟨bo,0,none⟩) l.length ((List.finRange l.length).map (fun i:Fin l.length=>(i.val:Int)))) (Ent.n7 (f:=fun i:Fin l.length=>(i.val:Int)) (enc:=encZ .i64))).trans ?_;show Ent (osl (fun x:Fin l.length=>[Value.int .i64 (x.val:Int)]) 1 tInt (some ⟨bo,0,none⟩) l.length (List.finRange l.length)::_) _;exact ag
 refine Oh ?_;intros;have a4:=wY (E:=tInt) (cap:=(List.finRange l.length).length) (ad:=some ⟨bo,0,none⟩) (enc:=fun i:Fin l.length=>Value.int .i64 (i.val:Int)) (by intro x;rfl) (xs:=List.finRange l.length) (Lc:=[isl ri 1 (some ⟨bv,0,none⟩) [⟨some ⟨br,0,none⟩,((List.range l.length).map (shR l n)).length,l.length⟩],isl (encZ .u64) 1 (some ⟨br,0,none⟩) ((List.range l.length).map (shR l n))]) (g:=324) (cb:=#[ay bv]) (ww (shR l n) l.length) (Fj _ _) en324.1 uH (fun x y=>zq bv (some ⟨br,0,none⟩) l.length ((List.range l.length).map (shR l n)) x.val y.val (by rw[b0];exact x.isLt) (by rw[b0];exact y.isLt) (by rw[b0];omega)) (by rw[b4];omega);rw[b4] at a4;(first|refine GO.ef (Ef.call (a4) rfl cN) ae ?_);rintro _ _⟨_,⟨rfl,ys,⟨b7,b8⟩,rfl⟩,hL⟩;simp only[ao,al] at hL;subst hL
 have a2:(ys.map (fun i=>i.val)).Perm (List.range l.length):=by
  rw[←qC];exact b7.map _
 have a5:(ys.map (fun i=>i.val)).Pairwise (rkLt (shR l n)):=by
  refine xm a2 ?_;rw[List.pairwise_map];refine b8.imp ?_;intro a b b9;rw[oG] at b9;omega
 obtain⟨o,ho⟩:∃o,o=ys.map (fun i=>i.val):=⟨_,rfl⟩;rw[←ho] at a2 a5;have c5:o.length=l.length:=by have:=a2.length_eq;simpa using this
 have e0:(o.map (fun k:Nat=>(k:Int))).length=l.length:=by simpa using c5
 have c7:∀i,i<o.length→(o.map (fun k:Nat=>(k:Int)))[i]! = (o[i]! : Int):=fun i hi=>dI _ hi;have c6:∀i,i<o.length→o[i]! < l.length:=fun i hi=>List.mem_range.1 (a2.mem_iff.1 (aJ hi));refine GO.ent (L':=osl (encZ .i64) 1 tInt (some ⟨bo,0,none⟩) l.length (o.map (fun k:Nat=>(k:Int)))::osl (encZ .i64) 1 tInt (some ⟨bp,0,none⟩) l.length ((List.range l.length).map (shQ l n))::L) ?_ ?_
 ·have e:ys.map (fun i:Fin l.length=>(i.val:Int))=o.map (fun k:Nat=>(k:Int)):=by rw[ho,dW];rfl
  rw[←e];refine(show Ent _ (osl (encZ .i64) 1 tInt (some ⟨bo,0,none⟩) l.length (ys.map (fun i:Fin l.length=>(i.val:Int)))::_) from Ent.m9 (f:=fun i:Fin l.length=>(i.val:Int)) (enc:=encZ .i64)).trans ?_;exact ag
 clear b8 b7 ho ys;refine Oh ?_;intros
 refine G.loop (α:=Nat) (fun i=>(i:Int)≤gg l n) (fun i=>[(9,ah (some ⟨bp,0,none⟩) l.length l.length),(11,ah (some ⟨bo,0,none⟩) l.length l.length),(85,ac (gg l n)),(86,ac (i:Int))])
  (fun i=>osl (encZ .i64) 1 tInt (some ⟨bo,0,none⟩) l.length (o.map (fun k:Nat=>(k:Int)))::osl (encZ .i64) 1 tInt (some ⟨bp,0,none⟩) l.length ((List.range l.length).map (fun k=>shQ l n k+if k∈o.take i then 1 else 0))::L) (fun i=>(gg l n).toNat - i) 0 c3 av ?_ ?_
 ·have e:(List.range l.length).map (fun k=>shQ l n k+if k∈o.take 0 then 1 else 0)=(List.range l.length).map (shQ l n):=df (fun k _=>by simp);rw[e];exact ag
 intro i hi;by_cases a0:(i:Int)<gg l n
 case neg =>
  have e:(List.range l.length).map (fun k=>shQ l n k+if k∈o.take i then 1 else 0)=(List.range l.length).map (shC l n):=by
   apply df;intro k hk;have c2:=List.mem_range.1 hk;unfold shC;rw[oH];congr 1;have h3:=iI a2 a5 (m:=i) c2;by_cases h4:eZ (shR l n) l.length k<i
   ·rw[if_pos (h3.2 h4),if_pos ab]
   ·rw[if_neg (fun h=>h4 (h3.1 h)),if_neg ab]
  rw[e];refine Oh ?_;intros;exact KX.en ⟨some ⟨bp,0,none⟩,l.length,rfl,rfl⟩
 have a6:(i:Int).toNat=i:=ab;have a3:i<o.length:=ab;have a1:=c6 i a3;have e1:((List.range l.length).map (fun k=>shQ l n k+if k∈o.take i then 1 else 0)).length=l.length:=by simp
 have c9:((List.range l.length).map (fun k=>shQ l n k+if k∈o.take i then 1 else 0))[o[i]!]! = shQ l n o[i]!:=by
  rw[hJ a1,if_neg,gd];intro b2;have h3:=(iI a2 a5 a1).1 b2;rw[getElem!_of a3,jE a2 a5 a3] at h3;omega
 obtain⟨q1,q2⟩:=jC hl h0 h1 a1;have a9:=hl _ (aJ a1);unfold LotOk at a9;refine Oh ?_;intros;rw[a6,c7 i a3];have b6:((o[i]! : Nat):Int).toNat=o[i]!:=ab;refine Oh ?_;intros;rw[b6,c9];refine Oh ?_;intros
 have e:((List.range l.length).map (fun k=>shQ l n k+if k∈o.take i then 1 else 0)).set o[i]! (shQ l n o[i]! + 1)=(List.range l.length).map (fun k=>shQ l n k+if k∈o.take (i+1) then 1 else 0):=by
  apply dd
  ·simp
  ·intro k h3 h4;have hk:k<l.length:=by simpa using h4
   rw[cP];simp only[cK,List.getElem_range];have m1:=iI a2 a5 (m:=i) hk;have m2:=iI a2 a5 (m:=i+1) hk;by_cases h5:o[i]! = k
   ·subst h5;have h6:eZ (shR l n) l.length o[i]! = i:=by rw[getElem!_of a3];exact jE a2 a5 a3
    rw[if_pos rfl,if_pos (m2.2 ab)]
   ·rw[if_neg h5];congr 1
    have h6:eZ (shR l n) l.length k≠i:=by
     intro h7;refine h5 (tD (R:=shR l n) a1 hk ?_);rw[h7,getElem!_of a3];exact jE a2 a5 a3
    by_cases h7:eZ (shR l n) l.length k<i
    ·rw[if_pos (m1.2 h7),if_pos (m2.2 ab)]
    ·rw[if_neg (fun h=>h7 (m1.1 h)),if_neg (fun h=>absurd (m2.1 h) ab)]
 rw[b6,e];refine⟨i+1,ab,ab,?_,by exact ag⟩;rw[aY i];exact av
def we{L:LH}(n w s:Int)(h0:0≤n)(h1:n≤1099511627776)(h2:0≤w)(h3:w≤1152921504606846976)(h4:0<s)(h5:s≤1152921504606846976)(hq:n*w / s≤1099511627776) :
  Tri ai 307 #[ac n,ac w,ac s] L (rtQ (.tuple #[ac (n*w / s),ac (n*w % s),.bool true]) L):=by
 obtain⟨N,rfl⟩:∃N:Nat,n=N:=⟨n.toNat,ab⟩;obtain⟨W,rfl⟩:∃W:Nat,w=W:=⟨w.toNat,ab⟩;obtain⟨S,rfl⟩:∃S:Nat,s=S:=⟨s.toNat,ab⟩;have e1:((N*W / S:Nat):Int)=(N:Int)*W / S:=by rw[←gB];rfl
 have e2:((N*W % S:Nat):Int)=(N:Int)*W % S:=by rw[←gB];rfl
 have h:=xr (L:=L) N W S ab ab ab ab (by rw[←e1] at hq;exact Int.ofNat_le.1 hq);rw[e1,e2] at h;exact h
def tH{L:LH}(n:Int)(h0:0≤n)(h1:n≤1099511627776):Tri ai 306 #[ac n] L (rtQ (.bool true) L):=by
 refine Tri.bd ?_;refine JM ?_;intros;exact KX.d7 an (Ent.refl _) ⟨by rw[aU h1];rfl,rfl⟩
def pI{f:Nat→Int}{n b:Nat}{v:Int}:((List.range n).map f).set b v=(List.range n).map (fun k=>if k=b then v else f k):=by
 apply dd
 ·simp
 ·intro k h1 h2;rw[cP];by_cases e:b=k
  ·subst e;simp
  ·rw[if_neg e];simp;intro q;exact absurd q.symm e
def iP{f g:Nat→Int}{n:Nat}(h:∀k,k<n→f k=g k):(List.range n).map f=(List.range n).map g:=df (fun k hk=>h k (List.mem_range.1 hk))
def spO(l:LL)(n:Int)(m k:Nat):Int:=shQ l n k+(if eZ (shR l n) l.length k<m then 1 else 0)
def spR(l:LL)(n:Int)(m k:Nat):Int:=if eZ (shR l n) l.length k<m then -1 else shR l n k
def Is{R:Nat→Int}{n m b:Nat}(hR:∀k,k<n→0≤R k)(hm:m<n)(hb:b<n)(h1:∀j,j<n→(if eZ R n j<m then(-1:Int) else R j)≤(if eZ R n b<m then -1 else R b))(h2:∀j,j<b→(if eZ R n j<m then(-1:Int) else R j)<(if eZ R n b<m then -1 else R b)):eZ R n b=m:=by
 obtain⟨k,hk,a3,a4⟩:=Jv (R:=R) hm;by_cases e:b=k
 ·rw[e];exact a3
 exfalso;have a1:=h1 k hk;rw[if_neg (by omega:¬eZ R n k<m)] at a1;have r0:=hR k hk;have a0:¬eZ R n b<m:=fun q=>by rw[if_pos q] at a1;omega
 rw[if_neg a0] at a1;rcases a4 b hb e ab with q|⟨q1,q2⟩
 ·omega
 ·have a2:=h2 k q2;rw[if_neg (by omega:¬eZ R n k<m),if_neg a0] at a2;omega
def Hb{l:LL}{n:Int}{m b:Nat}(hb:b<l.length)(h:eZ (shR l n) l.length b=m):((List.range l.length).map (spO l n m)).set b (spO l n m b+1)=(List.range l.length).map (spO l n (m+1)):=by
 rw[pI];apply iP;intro k hk;by_cases e:k=b
 ·rw[if_pos e];subst e;unfold spO;rw[if_neg ab,if_pos ab];omega
 ·rw[if_neg e];have:eZ (shR l n) l.length k≠m:=fun q=>e (tD hk hb (by rw[q,h]));unfold spO;by_cases c:eZ (shR l n) l.length k<m
  ·rw[if_pos c,if_pos ab]
  ·rw[if_neg c,if_neg ab]
def Ha{l:LL}{n:Int}{m b:Nat}(hb:b<l.length)(h:eZ (shR l n) l.length b=m):((List.range l.length).map (spR l n m)).set b (-1)=(List.range l.length).map (spR l n (m+1)):=by
 rw[pI];apply iP;intro k hk;by_cases e:k=b
 ·rw[if_pos e];subst e;unfold spR;rw[if_pos ab]
 ·rw[if_neg e];have:eZ (shR l n) l.length k≠m:=fun q=>e (tD hk hb (by rw[q,h]));unfold spR;by_cases c:eZ (shR l n) l.length k<m
  ·rw[if_pos c,if_pos ab]
  ·rw[if_neg c,if_neg ab]
def uC{l:LL}(hl:∀x∈l,LotOk x)(a0:l.length≤4096):lsum l≤4096*1099511627776:=by
 have h:=(gZ hl l.length (aB _)).2;rw[im] at h;have h2:(l.length:Int)*1099511627776≤4096*1099511627776:=cd ab ae;omega
abbrev zL:=aH1 [.ev 8]
def OE{φ ψ:Prop}(k:ψ)(h:Hid ψ→φ:=by intro k;(repeat (first|refine aa ?_|intro zzz|refine G.dr 113 26 zL ?_));(repeat revert zzz);exact Hid.out k):φ:=h ⟨k⟩
def zw{L:LH}(ad:OA)(c:Nat)(l:LL)(n:Int)[f5:Rds L ad Int (encZ .i64) 1 (wts l)](c9:l.length≤4096)(hl:∀x∈l,LotOk x)(b2:l≠[])(h0:0≤n)(h1:n≤lsum l)(h2:n≤1099511627776) :
  Tri ai 290 #[ac n,ah ad l.length c] L (fun v L'=>∃b3 a7,v=.tuple #[ah b3 l.length a7,ac 0]∧L' = osl (encZ .i64) 1 tInt b3 a7 ((List.range l.length).map (shC l n))::L):=by
 have g0:=um l;have a9:0<l.length:=List.length_pos_iff.2 b2;have d4:=jy hl a9;have f9:=uC hl c9;refine Tri.bd ?_;refine OE ?_;intros;refine G.loop (α:=Nat) (fun i=>i≤l.length) (fun i=>[(0,ac n),(1,ah ad l.length c),(6,ac (lsum (l.take i))),(7,ac (i:Int))]) (fun _=>L) (fun i=>l.length - i) 0 (ax _) av (Ent.refl _) ?_;intro i hi;have e5:=gZ hl i hi;have e6:(i:Int)*1099511627776≤4096*1099511627776:=cd ab ae;by_cases a5:i<l.length
 case pos =>
  have a6:(i:Int).toNat=i:=aC i;have hw:(wts l)[(i:Int).toNat]! = l[i]!.2.2:=by rw[a6];exact nX a5
  have b6:=hl _ (aJ a5);have f3:=b6.w;obtain⟨o1,o2,o3,o4,o5⟩:=b6;have d5:=eK l a5;refine OE ?_;intros;rw[hw];refine GO.ca (tH l[i]!.2.2 ab ab) ?_;rintro _ L ⟨rfl,rfl⟩;refine OE ?_;intros;rw[hw];refine OE ?_;intros;refine⟨i+1,ab,ab,?_,Ent.refl _⟩;rw[aY i,d5];exact av
 obtain rfl:i=l.length:=ab;rw[im];refine OE ?_;intros;refine GO.ca (tH n h0 h2) ?_;rintro _ L ⟨rfl,rfl⟩;refine OE ?_;intros;refine G.loop (α:=Nat×(OA×Nat)×OA×Nat) (fun z=>z.1≤l.length) (fun z=>[(0,ac n),(1,ah ad l.length c),(6,ac (lsum l)),(10,ah z.2.1.1 z.1 z.2.1.2),(11,ah z.2.2.1 z.1 z.2.2.2),(12,ac (n - de z.1 (shQ l n))),(13,ac (z.1:Int))]) (fun z=>osl (encZ .i64) 1 tInt z.2.1.1 z.2.1.2 ((List.range z.1).map (shQ l n))::osl (encZ .i64) 1 tInt z.2.2.1 z.2.2.2 ((List.range z.1).map (shR l n))::L) (fun z=>l.length - z.1) (0,(none,0),none,0) (ax _) ?_ ((Ent.d8 (encZ .i64) 1 tInt).trans (Ent.d8 (encZ .i64) 1 tInt)) ?_
 ·rw[kg,fE];exact av
 rintro⟨i,⟨a1,c1⟩,a2,c2⟩ hi;dsimp only at hi ⊢;have d2:((List.range i).map (shQ l n)).length=i:=by simp
 have d3:((List.range i).map (shR l n)).length=i:=by simp
 have f6:0≤de i (shQ l n)∧de i (shQ l n)≤n:=by
  have h3:de l.length (shQ l n)≤n:=by
   have:=(me (n:=n) hl b2).1
   rw[kO] at this;omega
  have h4:∀j,j≤l.length→0≤de j (shQ l n):=by
   intro j;induction j with
   | zero=>intro _;exact bB _
   | succ j ih =>
    intro hj;rw[eJ];have:=ih ab
    have:=(jC hl h0 h1 (ab:j<l.length)).1
    omega
  have h5:∀d,i+d≤l.length→de i (shQ l n)≤de (i+d) (shQ l n):=by
   intro d;induction d with
   | zero=>intro _;exact bB _
   | succ d ih =>
    intro hd;have:=ih ab
    rw[show i+(d+1)=(i+d)+1 by omega,eJ];have:=(jC hl h0 h1 (ab:i+d<l.length)).1
    omega
  have h6:=h5 (l.length - i) ab;rw[show i+(l.length - i)=l.length by omega] at h6;exact⟨h4 i hi,ab⟩
 by_cases a5:i<l.length
 case pos =>
  have a6:(i:Int).toNat=i:=aC i;have hw:(wts l)[(i:Int).toNat]! = l[i]!.2.2:=by rw[a6];exact nX a5
  obtain⟨o1,o2,o3,o4,o5⟩:=hl _ (aJ a5);have f4:=jC hl h0 h1 a5;have eq:shQ l n i=n*l[i]!.2.2 / lsum l:=rfl;have er:shR l n i=n*l[i]!.2.2 % lsum l:=rfl;refine OE ?_;intros;rw[hw];refine GO.cr (we n l[i]!.2.2 (lsum l) h0 h2 ab ab d4 ab (by rw[←eq];omega)) ?_;rw[←eq,←er];refine OE ?_;intros;refine GO.ef (Ef.d7 (enc:=encZ .i64) (shQ l n i) rfl rfl rfl d2.symm rfl aK (ni _ _) ab ab) ae ?_;rintro _ _⟨a3,c3,rfl,rfl⟩;refine OE ?_;intros;refine GO.ef (Ef.d7 (enc:=encZ .i64) (shR l n i) rfl rfl rfl d3.symm rfl aK (ni _ _) ab ab) ae ?_;rintro _ _⟨a4,c4,rfl,rfl⟩;refine OE ?_;intros;have e1:(List.range i).map (shQ l n)++[shQ l n i]=(List.range (i+1)).map (shQ l n):=by rw[fq,aW];rfl
  have e2:(List.range i).map (shR l n)++[shR l n i]=(List.range (i+1)).map (shR l n):=by rw[fq,aW];rfl
  rw[e1,e2];refine⟨(i+1,(a3,c3),a4,c4),by dsimp only;omega,by dsimp only;omega,?_,by exact ag⟩;dsimp only;rw[aY i,eJ,show((List.range (i+1)).map (shQ l n)).length=i+1 by simp,show((List.range (i+1)).map (shR l n)).length=i+1 by simp,show n - (de i (shQ l n)+shQ l n i)=n - de i (shQ l n) - shQ l n i by omega];exact av
 obtain rfl:i=l.length:=ab;have c8:n - de l.length (shQ l n)=gg l n:=(kO l n).symm;rw[c8];obtain⟨f1,f2⟩:=me (n:=n) hl b2;have c0:(List.range l.length).map (shQ l n)=(List.range l.length).map (spO l n 0):=iP (fun k _=>by unfold spO;rw[if_neg ab];omega);have c6:(List.range l.length).map (shR l n)=(List.range l.length).map (spR l n 0):=iP (fun k _=>by unfold spR;rw[if_neg ab]);rw[c0,c6];refine OE ?_;intros;refine G.loop (α:=Nat) (fun m=>(m:Int)≤gg l n) (fun m=>[(0,ac n),(1,ah ad l.length c),(6,ac (lsum l)),(10,ah a1 l.length c1),(11,ah a2 l.length c2),(12,ac (gg l n - (m:Int)))]) (fun m=>osl (encZ .i64) 1 tInt a1 c1 ((List.range l.length).map (spO l n m))::osl (encZ .i64) 1 tInt a2 c2 ((List.range l.length).map (spR l n m))::L) (fun m=>(gg l n).toNat - m) 0 ab ?_ (Ent.refl _) ?_
 ·rw[show((0:Nat):Int)=0 from rfl,fE];exact av
 intro m hm;have b9:∀f:Nat→Int,((List.range l.length).map f).length=l.length:=fun f=>by simp
 by_cases d0:(m:Int)=gg l n
 ·have hO:(List.range l.length).map (spO l n m)=(List.range l.length).map (shC l n):=iP (fun k _=>by
   unfold spO shC;rw[oH,←d0];by_cases q:eZ (shR l n) l.length k<m
   ·rw[if_pos q,if_pos ab]
   ·rw[if_neg q,if_neg ab])
  rw[hO];refine OE ?_;intros;exact KX.en ⟨a1,c1,rfl,rfl⟩
 have d1:m<l.length:=ab;have d6:=b9 (spO l n m);have e0:=b9 (spR l n m);have b5:∀k,k<l.length→((List.range l.length).map (spO l n m))[k]! = spO l n m k:=fun k hk=>hJ hk;have a8:∀k,k<l.length→((List.range l.length).map (spR l n m))[k]! = spR l n m k:=fun k hk=>hJ hk;have b7:=fun b (hb:b<l.length) h=>Hb (n:=n) (m:=m) hb h;have b8:=fun b (hb:b<l.length) h=>Ha (n:=n) (m:=m) hb h;obtain⟨xs,e3⟩:∃xs,xs=(List.range l.length).map (spO l n m):=⟨_,rfl⟩;obtain⟨ys,e4⟩:∃ys,ys=(List.range l.length).map (spR l n m):=⟨_,rfl⟩;rw[←e3] at d6 b5 b7 ⊢;rw[←e4] at e0 a8 b8 ⊢;refine OE ?_;intros;refine G.loop (α:=Nat×Nat) (fun z=>z.1≤l.length∧z.2<z.1∧(∀j,j<z.1→ys[j]!≤ys[z.2]!)∧∀j,j<z.2→ys[j]! < ys[z.2]!) (fun z=>[(0,ac n),(1,ah ad l.length c),(6,ac (lsum l)),(10,ah a1 l.length c1),(11,ah a2 l.length c2),(12,ac (gg l n - (m:Int))),(17,ac (z.2:Int)),(18,ac (z.1:Int))]) (fun _=>osl (encZ .i64) 1 tInt a1 c1 xs::osl (encZ .i64) 1 tInt a2 c2 ys::L) (fun z=>l.length - z.1) (1,0) ⟨a9,Nat.zero_lt_one,fun j hj=>(ab:j=0)▸bB _,fun j hj=>absurd hj (cj j)⟩ av (Ent.refl _) ?_;rintro⟨i,b⟩ ⟨i1,i2,i3,i4⟩;dsimp only at i1 i2 i3 i4 ⊢;have b0:(b:Int).toNat=b:=aC b;by_cases a5:i<l.length
 case pos =>
  have a6:(i:Int).toNat=i:=aC i;by_cases hc:ys[(b:Int).toNat]! < ys[(i:Int).toNat]!
  ·refine OE ?_;intros;rw[b0,a6] at hc;refine⟨(i+1,i),⟨by dsimp only;omega,by dsimp only;omega,?_,?_⟩,by dsimp only;omega,?_,by exact ag⟩
   ·dsimp only;intro j hj;by_cases e:j=i
    ·subst e;exact bB _
    ·have:=i3 j ab;omega
   ·dsimp only;intro j hj;have:=i3 j hj
    omega
   ·dsimp only;rw[aY i];exact av
  ·refine OE ?_;intros;rw[b0,a6] at hc;refine⟨(i+1,b),⟨by dsimp only;omega,by dsimp only;omega,?_,i4⟩,by dsimp only;omega,?_,by exact ag⟩
   ·dsimp only;intro j hj;by_cases e:j=i
    ·subst e;omega
    ·exact i3 j ab
   ·dsimp only;rw[aY i];exact av
 obtain rfl:i=l.length:=ab
 have a0:eZ (shR l n) l.length b=m:=by
  refine Is (fun k hk=>dC _ ab) d1 i2 ?_ ?_
  ·intro j hj;have:=i3 j hj
   rw[a8 j hj,a8 b i2] at this;exact this
  ·intro j hj;have:=i4 j hj
   rw[a8 j ab,a8 b i2] at this;exact this
 have b4:=b7 b i2 a0;have c7:=b8 b i2 a0
 have c5:0≤spO l n m b∧spO l n m b≤1099511627776*2:=by
  have q1:=jC hl h0 h1 i2;obtain⟨o1,o2,o3,o4,o5⟩:=hl _ (aJ i2);unfold spO;split<;>omega
 rw[←b5 b i2,←b0] at b4 c5;have b1 : ys.set (b:Int).toNat (-1)=(List.range l.length).map (spR l n (m+1)):=by rw[b0];exact c7
 have f0:(b:Int).toNat<xs.length:=ab;refine OE ?_;intros;rw[b4,b1];refine⟨m+1,ab,ab,?_,by exact ag⟩;rw[aY m,show gg l n - ((m:Int)+1)=gg l n - (m:Int) - 1 by omega];exact av
def xu{L:LH}(ad:OA)(c:Nat)(l:LL)(n:Int)(mx:Bool)[b5:Rds L ad Lot aj 3 l](a9:l.length≤4096)(hl:∀x∈l,LotOk x)(h0:0≤n)(h1:n≤lsum l)(h2:n≤1099511627776) :
  Tri ai 271 #[ah ad l.length c,ac n,.bool mx] L (fun v L'=>∃a6 a0,v=ah a6 l.length a0∧L' = osl (encZ .i64) 1 tInt a6 a0 ((List.range l.length).map (tkC mx l n))::L):=by
 have a8:=um l;refine Tri.bd ?_;refine JM ?_;intros;refine G.loop (α:=Nat×(OA×Nat)×OA×Nat) (fun z=>z.1≤l.length) (fun z=>[(0,ah ad l.length c),(1,ac n),(2,.bool mx),(7,ah z.2.1.1 z.1 z.2.1.2),(8,ah z.2.2.1 z.1 z.2.2.2),(9,ac (fuR l n z.1)),(10,ac (z.1:Int))]) (fun z=>osl (encZ .i64) 1 tInt z.2.1.1 z.2.1.2 ((wts l).take z.1)::osl (encZ .i64) 1 tInt z.2.2.1 z.2.2.2 ((List.range z.1).map (fuC l n))::L) (fun z=>l.length - z.1) (0,(none,0),none,0) (ax _) av ((Ent.d8 (encZ .i64) 1 tInt).trans (Ent.d8 (encZ .i64) 1 tInt)) ?_;rintro⟨i,⟨a1,c1⟩,a2,c2⟩ hi;dsimp only at hi ⊢;have b1:((wts l).take i).length=i:=by rw[bg];omega
 have b2:((List.range i).map (fuC l n)).length=i:=by simp
 have b4:=ou h0 (fun x h=>(hl x h).w) i hi;by_cases a5:i<l.length
 case pos =>
  have a7:(i:Int).toNat=i:=aC i;obtain⟨o1,o2,o3,o4,o5⟩:=hl _ (aJ a5);have b3:=ow h0 (fun x h=>(hl x h).w) i a5
  have e1:(wts l).take i++[l[i]!.2.2]=(wts l).take (i+1):=by
   rw[aG ab,←getElem!_of ab,nX a5]
  have e2:(List.range i).map (fuC l n)++[fuC l n i]=(List.range (i+1)).map (fuC l n):=by rw[fq,aW];rfl
  have ec:min (fuR l n i) l[i]!.2.2=fuC l n i:=rfl;have er:fuR l n i - fuC l n i=fuR l n (i+1):=rfl;refine JM ?_;intros;rw[a7];refine GO.ef (Ef.d7 (enc:=encZ .i64) (l[i]!.2.2) rfl rfl rfl b1.symm rfl aK (ni _ _) ab ab) ae ?_;rintro _ _⟨a3,c3,rfl,rfl⟩;rw[e1];refine JM ?_;intros;rw[a7,ec];refine JM ?_;intros;refine GO.ef (Ef.d7 (enc:=encZ .i64) (fuC l n i) rfl rfl rfl b2.symm rfl aK (ni _ _) ab ab) ae ?_;rintro _ _⟨a4,c4,rfl,rfl⟩;rw[e2];refine JM ?_;intros;rw[er];refine⟨(i+1,(a3,c3),a4,c4),by dsimp only;omega,by dsimp only;omega,?_,by exact ag⟩;dsimp only;rw[aY i,show((wts l).take (i+1)).length=i+1 by rw[bg];omega,show((List.range (i+1)).map (fuC l n)).length=i+1 by simp];exact av
 obtain rfl:i=l.length:=ab;rw[←a8,bC,a8];cases mx with
 | false =>
  have et:(List.range l.length).map (fuC l n)=(List.range l.length).map (tkC false l n):=rfl;rw[et];refine JM ?_;intros;exact KX.en ⟨a2,c2,rfl,rfl⟩
 | true =>
  by_cases hn:0<n
  ·have et:tkC true l n=shC l n:=if_pos ⟨rfl,hn⟩;rw[et]
   have b0:l≠[]:=by
    intro q;subst q;have:lsum ([]:LL)=0:=rfl;omega
   refine JM ?_;intros;refine GO.ca (zw a1 c1 l n a9 hl b0 h0 h1 h2) ?_;rintro _ _⟨a3,c3,rfl,rfl⟩;refine JM ?_;intros;exact KX.en ⟨a3,c3,rfl,rfl⟩
  ·have et:tkC true l n=fuC l n:=if_neg (fun q=>hn q.2);rw[et];refine JM ?_;intros;exact KX.en ⟨a2,c2,rfl,rfl⟩
abbrev zK:=aH3 [.ev 13,.ev 14,.ev 15,.ef 16,.ev 17]
abbrev zJ:=aH4 [.ev 17,.ev 18,.ev 19,.ev 20,.ev 21,.ev 22,.ev 23,.ev 24,.ev 25,.ev 26,.ef 27,.ev 28]
def OW{φ ψ:Prop}(k:ψ)(h:Hid ψ→φ:=by intro k;(repeat (first|refine aa ?_|intro zzz|refine G.dr 87 11 zK ?_|refine G.dr 87 12 zJ ?_));(repeat revert zzz);exact Hid.out k):φ:=h ⟨k⟩
def CK{L:LH}(ad:OA)(c:Nat)(xs:LL)(n:Int)(mx:Bool)[c6:Rds L ad Lot aj 3 xs](hb:xs.length≤4096)(hx:∀l∈xs,LotOk l)(b1:0≤n)(b6:n≤1099511627776) :
  Tri ai 226 #[ah ad xs.length c,ac n,.bool mx] L (fun v L' =>
   (lsum xs<n∧v=.tuple #[ah none 0 0,ah none 0 0,ac 10]∧L' = L) ∨
   (n≤lsum xs∧∃a9 c1 ad2 c2,v=.tuple #[ah a9 (gW mx xs n).length c1,ah ad2 (eU mx xs n).length c2,ac 0]∧L' = osl aj 3 tLot a9 c1 (gW mx xs n)::osl aj 3 tLot ad2 c2 (eU mx xs n)::L)):=by
 refine Tri.bd ?_;refine OW ?_;intros;refine GO.ca (rx ad xs.length c xs rfl hb hx) ?_;rintro _ L ⟨rfl,rfl⟩;refine OW ?_;intros;refine GO.ca (jD ad xs.length c xs rfl hb hx) ?_;rintro _ L ⟨rfl,rfl⟩;by_cases hs:lsum xs<n
 ·refine OW ?_;intros;exact KX.d7 an (Ent.refl _) (.inl ⟨hs,rfl,rfl⟩)
 have a8 : n≤lsum xs:=ab;refine OW ?_;intros;refine GO.ca (xu ad c xs n mx hb hx b1 a8 b6) ?_;rintro _ _⟨ak,ck,rfl,rfl⟩;obtain⟨cs,a6⟩:∃cs,cs=tkC mx xs n:=⟨_,rfl⟩;have b0:∀k,k<xs.length→0≤cs k∧cs k≤xs[k]!.2.2:=by rw[a6];exact nY mx xs n hx b1 a8
 have ht:gW mx xs n=divF xs cs xs.length:=by rw[a6];rfl
 have b5:eU mx xs n=divR xs cs xs.length:=by rw[a6];rfl
 have c0:((List.range xs.length).map cs).length=xs.length:=by simp
 rw[←a6,ht,b5];refine OW ?_;intros;refine G.loop (α:=Nat×(OA×Nat)×OA×Nat) (fun z=>z.1≤xs.length) (fun z=>[(0,ah ad xs.length c),(10,ah ak xs.length ck),(11,ah z.2.1.1 (divF xs cs z.1).length z.2.1.2),(12,ah z.2.2.1 (divR xs cs z.1).length z.2.2.2),(13,ac (z.1:Int))]) (fun z=>osl aj 3 tLot z.2.1.1 z.2.1.2 (divF xs cs z.1)::osl aj 3 tLot z.2.2.1 z.2.2.2 (divR xs cs z.1)::osl (encZ .i64) 1 tInt ak ck ((List.range xs.length).map cs)::L) (fun z=>xs.length - z.1) (0,(none,0),none,0) (ax _) av ((Ent.d8 aj 3 tLot).trans (Ent.d8 aj 3 tLot)) ?_;rintro⟨i,⟨a1,c1⟩,a2,c2⟩ hi;dsimp only at hi ⊢;by_cases a7:i<xs.length
 case neg =>
  obtain rfl:i=xs.length:=ab;refine OW ?_;intros;refine KX.d7 an ?_ (.inr ⟨a8,a1,c1,a2,c2,rfl,rfl⟩);exact ag
 have a0:(i:Int).toNat=i:=aC i;have hw:=hx _ (aJ a7);obtain⟨w1,w2,w3,w4⟩:=hw.w;obtain⟨k0,k1⟩:=b0 i a7;have a5:((List.range xs.length).map cs)[(i:Int).toNat]! = cs i:=by rw[a0];exact hJ a7
 obtain⟨b2,b3⟩:=wz (fun x h=>(hx x h).w) b0 i hi;obtain⟨p1,p2⟩:=pc_w a7 (fun x h=>(hx x h).w) ⟨k0,k1⟩;obtain⟨b7,b8⟩:=kn xs cs i;have c5:(i:Int).toNat<xs.length:=ab;obtain⟨kv,b4⟩:∃kv,kv=((List.range xs.length).map cs)[(i:Int).toNat]!:=⟨_,rfl⟩;have b9:kv=cs i:=by rw[b4,a5]
 have e1:aZ (divF xs cs i) (xs[(i:Int).toNat]!.1,xs[(i:Int).toNat]!.2.1,((List.range xs.length).map cs)[(i:Int).toNat]!)=divF xs cs (i+1):=by rw[a5,a0,qI];rfl
 have e2:aZ (divR xs cs i) (xs[(i:Int).toNat]!.1,xs[(i:Int).toNat]!.2.1+((List.range xs.length).map cs)[(i:Int).toNat]!,xs[(i:Int).toNat]!.2.2 - ((List.range xs.length).map cs)[(i:Int).toNat]!)=divR xs cs (i+1):=by rw[a5,a0,nD];rfl
 have q1:LotW (xs[(i:Int).toNat]!.1,xs[(i:Int).toNat]!.2.1,((List.range xs.length).map cs)[(i:Int).toNat]!):=by rw[a5,a0];exact p1
 have q2:LotW (xs[(i:Int).toNat]!.1,xs[(i:Int).toNat]!.2.1+((List.range xs.length).map cs)[(i:Int).toNat]!,xs[(i:Int).toNat]!.2.2 - ((List.range xs.length).map cs)[(i:Int).toNat]!):=by rw[a5,a0];exact p2
 have c7 : 0≤((List.range xs.length).map cs)[(i:Int).toNat]!∧((List.range xs.length).map cs)[(i:Int).toNat]!≤xs[(i:Int).toNat]!.2.2:=by rw[a5,a0];exact⟨k0,k1⟩
 rw[←a0] at w1 w2 w3 w4;refine OW ?_;intros;refine GPW.ca (lQ a1 (divF xs cs i).length c1 (divF xs cs i) _ rfl ab b2 q1) ?_;rintro _ _⟨a3,c3,rfl,rfl⟩;rw[e1];refine OW ?_;intros;refine GPW.ca (lQ a2 (divR xs cs i).length c2 (divR xs cs i) _ rfl ab b3 q2) ?_;rintro _ _⟨a4,c4,rfl,rfl⟩;rw[e2];refine OW ?_;intros;refine⟨(i+1,(a3,c3),a4,c4),by dsimp only;omega,by dsimp only;omega,?_,by exact ag⟩;dsimp only;rw[aY i];exact av
instance:DecidablePred LotOk:=fun l=>by unfold LotOk;infer_instance
def dQ(xs:LL):Prop:=(∀x∈xs,LotOk x)∧xs.length≤4096
instance (xs:LL):Decidable (dQ xs):=by unfold dQ;infer_instance
def uy{L:LH}(x:Lot):Tri ai 233 #[aO (aj x)] L (rtQ (.bool (dB (LotOk x))) L):=by
 obtain⟨f,a,n⟩:=x;refine Tri.bd (args:=[aO (aj (f,a,n))]) ?_;simp only[aj];have a0:∀{p:Prop},¬p→(LotOk (f,a,n)→p)→dB (LotOk (f,a,n))=false:=fun h q=>aH (fun r=>h (q r));by_cases h1:0≤f
 case neg =>
  refine JM ?_;intros;exact KX.d7 an ag ⟨by rw[a0 h1 (fun q=>q.1)];rfl,rfl⟩
 by_cases h2:0≤a
 case neg =>
  refine JM ?_;intros;exact KX.d7 an ag ⟨by rw[a0 h2 (fun q=>q.2.1)];rfl,rfl⟩
 by_cases h3:1≤n
 case neg =>
  refine JM ?_;intros;exact KX.d7 an ag ⟨by rw[a0 h3 (fun q=>q.2.2.2.1)];rfl,rfl⟩
 by_cases h4:n≤1099511627776
 case neg =>
  refine JM ?_;intros;exact KX.d7 an ag ⟨by rw[a0 h4 (fun q=>by have:=q.2.2.2.2;dsimp only at this;omega)];rfl,rfl⟩
 refine JM ?_;intros;refine KX.d7 an ag ⟨?_,rfl⟩;by_cases h5:a≤1099511627776 - n
 ·rw[aU h5,aU (show LotOk (f,a,n) from⟨h1,h2,by dsimp only;omega,h3,by dsimp only;omega⟩)];rfl
 ·rw[aH h5,a0 h5 (fun q=>by have:=q.2.2.2.2;dsimp only at this;omega)];rfl
def iJ{L:LH}(ad:OA)(n c:Nat)(xs:LL)[Rds L ad Lot aj 3 xs](hn:n=xs.length)(hm:n≤9223372036854775807) :
  Tri ai 144 #[ah ad n c] L (rtQ (.bool (dB (dQ xs))) L):=by
 subst hn;refine Tri.bd ?_;refine JM ?_;intros;refine G.loop (α:=Nat) (fun i=>i≤xs.length∧∀k,k<i→LotOk xs[k]!) (fun i=>[(0,ah ad xs.length c),(3,ac (i:Int))]) (fun _=>L) (fun i=>xs.length - i) 0 ⟨ax _,fun k hk=>absurd hk (cj k)⟩ av (Ent.refl _) ?_;rintro i ⟨hi,a1⟩;by_cases a3:i<xs.length
 case neg =>
  refine JM ?_;intros;refine KX.d7 an (Ent.refl _) ⟨?_,rfl⟩
  have a0:∀x∈xs,LotOk x:=fun x hx=>by
   obtain⟨k,hk,e⟩:=List.mem_iff_getElem.1 hx;have h2:=a1 k ab;rw[getElem!_of hk,e] at h2;exact h2
  by_cases h:xs.length≤4096
  ·rw[aU (ab:(xs.length:Int)≤4096),aU (show dQ xs from⟨a0,h⟩)];rfl
  ·rw[aH (ab:¬(xs.length:Int)≤4096),aH (show ¬dQ xs from fun q=>h q.2)];rfl
 have a2:(i:Int).toNat=i:=ab;refine JM ?_;intros;rw[a2];refine GO.ca (uy xs[i]!) ?_;rintro _ L ⟨rfl,rfl⟩;by_cases hp:LotOk xs[i]!
 ·rw[aU hp];refine JM ?_;intros;refine⟨i+1,⟨ab,fun k hk=>?_⟩,ab,?_,Ent.refl _⟩
  ·by_cases e:k=i
   ·rw[e];exact hp
   ·exact a1 k ab
  ·rw[aY i];exact av
 ·rw[aH hp];refine JM ?_;intros;exact KX.d7 an (Ent.refl _) ⟨by rw[aH (show ¬dQ xs from fun q=>hp (q.1 _ (aJ a3)))];rfl,rfl⟩
def insS(f:Int)(z:LL×LL×Int×Int)(x:Lot):LL×LL×Int×Int :=
 if x.1<f∨(x.1=f∧x.2.1+x.2.2<z.2.2.1) then(z.1++[x],z.2)
 else if f<x.1∨z.2.2.2<x.2.1 then(z.1,z.2.1++[x],z.2.2)
 else(z.1,z.2.1,min z.2.2.1 x.2.1,max z.2.2.2 (x.2.1+x.2.2))
def insG(s:LL)(l:Lot):LL×LL×Int×Int:=s.foldl (insS l.1) ([],[],l.2.1,l.2.1+l.2.2)
def insL(s:LL)(l:Lot):LL:=(insG s l).1++[(l.1,(insG s l).2.2.1,(insG s l).2.2.2 - (insG s l).2.2.1)]++(insG s l).2.1
structure InsI (l:Lot) (n:Nat) (z:LL×LL×Int×Int):Prop where
 len:z.1.length+z.2.1.length≤n
 ok1:∀x∈z.1,LotOk x
 ok2:∀x∈z.2.1,LotOk x
 lo:0≤z.2.2.1∧z.2.2.1≤l.2.1
 hi:l.2.1+l.2.2≤z.2.2.2∧z.2.2.2≤1099511627776
def InsI.step{l:Lot}{n:Nat}{z:LL×LL×Int×Int}(h:InsI l n z){x:Lot}(hx:LotOk x):InsI l (n+1) (insS l.1 z x):=by
 obtain⟨h1,h2,h3,h4,h5⟩:=h;have a1:=hx;unfold LotOk at a1
 have a0:∀{t:LL},(∀y∈t,LotOk y)→∀y∈t++[x],LotOk y:=fun ht y hy=>by
  rcases List.mem_append.1 hy with q|q
  ·exact ht y q
  ·rw[List.mem_singleton.1 q];exact hx
 unfold insS;split
 ·exact⟨by simp only[aq,aM];omega,a0 h2,h3,h4,h5⟩
 ·split
  ·exact⟨by simp only[aq,aM];omega,h2,a0 h3,h4,h5⟩
  ·exact⟨by dsimp only;omega,h2,h3,by dsimp only;omega,by dsimp only;omega⟩
def vy{s:LL}{l:Lot}{i:Nat}(h:i<s.length):insG (s.take (i+1)) l=insS l.1 (insG (s.take i) l) s[i]!:=by
 unfold insG;rw[aG h,cv,getElem!_of h];rfl
def sC{s:LL}{l:Lot}(hl:LotOk l)(hs:∀x∈s,LotOk x):∀i,i≤s.length→InsI l i (insG (s.take i) l)
 | 0,_=>by
  unfold LotOk at hl;exact⟨aB _,(fun _ h=>by cases h),(fun _ h=>by cases h),⟨hl.2.1,bB _⟩,⟨bB _,by show l.2.1+l.2.2≤_;omega⟩⟩
 | i+1,h=>by
  rw[vy ab];exact(sC hl hs i ab).step (hs _ (aJ ab))
def II{s:LL}{l:Lot}(hl:LotOk l)(hs:∀x∈s,LotOk x):(insL s l).length≤s.length+1∧∀x∈insL s l,LotOk x:=by
 have h:=sC hl hs s.length (aB _);rw[bC] at h;obtain⟨h1,h2,h3,h4,h5⟩:=h;unfold LotOk at hl;refine⟨by unfold insL;simp only[aq,aM];omega,fun x hx=>?_⟩;unfold insL at hx;rcases List.mem_append.1 hx with hx|hx
 ·rcases List.mem_append.1 hx with hx|hx
  ·exact h2 x hx
  ·rw[List.mem_singleton.1 hx];unfold LotOk;dsimp only;omega
 ·exact h3 x hx
def xn{L:LH}(ad:OA)(n c:Nat)(xs:LL)(x:Lot)[Rds L ad Lot aj 3 xs](hn:n=xs.length)(hl:xs.length≤100000)(b0:∀y∈xs,LotOk y)(hx:LotOk x) :
  Tri ai 269 #[ah ad n c,aO (aj x)] L (fun v L'=>∃a6 a1,v=ah a6 (insL xs x).length a1∧L' = osl aj 3 tLot a6 a1 (insL xs x)::L):=by
 subst hn;have a5:=sC hx b0;obtain⟨f,a,m⟩:=x;have a8:=hx;unfold LotOk at a8;dsimp only at a8;refine Tri.bd (args:=[ah ad xs.length c,aO (aj (f,a,m))]) ?_;simp only[aj];refine JM ?_;intros;rename_i b3
 refine G.loop (α:=Nat×OA×Nat×OA×Nat) (fun g=>g.1≤xs.length) (fun g=>[(0,ah ad xs.length c),(3,ay b3),(5,ah g.2.1 (insG (xs.take g.1) (f,a,m)).1.length g.2.2.1),(6,ah g.2.2.2.1 (insG (xs.take g.1) (f,a,m)).2.1.length g.2.2.2.2),(7,ac (insG (xs.take g.1) (f,a,m)).2.2.1),(8,ac (insG (xs.take g.1) (f,a,m)).2.2.2),(9,ac (g.1:Int))])
  (fun g=>osl aj 3 tLot g.2.1 g.2.2.1 (insG (xs.take g.1) (f,a,m)).1::osl aj 3 tLot g.2.2.2.1 g.2.2.2.2 (insG (xs.take g.1) (f,a,m)).2.1::obj b3 tLot [ac f,ac a,ac m]::L) (fun g=>xs.length - g.1) (0,none,0,none,0) (ax _) av ((Ent.d8 aj 3 tLot).trans ((Ent.d8 aj 3 tLot).trans ag)) ?_
 rintro⟨i,a2,c1,ad2,c2⟩ hi;dsimp only at hi ⊢;obtain⟨i1,i2,i3,i4,i5⟩:=a5 i hi;dsimp only at i4 i5;by_cases a7:i<xs.length
 case neg =>
  obtain rfl:i=xs.length:=ab;rw[bC] at *;have e:insL xs (f,a,m)=(insG xs (f,a,m)).1++[(f,(insG xs (f,a,m)).2.2.1,(insG xs (f,a,m)).2.2.2 - (insG xs (f,a,m)).2.2.1)]++(insG xs (f,a,m)).2.1:=rfl;rw[e];generalize insG xs (f,a,m)=z at *;refine JM ?_;intros;refine GO.ef (Ef.d7 (enc:=aj) (f,z.2.2.1,z.2.2.2 - z.2.2.1) rfl rfl rfl rfl rfl aK (bX _) ab ab) ae ?_;rintro _ _⟨ad3,cap3,rfl,rfl⟩;refine JM ?_;intros;refine GO.ef (Ef.d9 (enc:=aj) (xs:=z.1++[(f,z.2.2.1,z.2.2.2 - z.2.2.1)]) (ys:=z.2.1) rfl rfl rfl rfl rfl (fun e _=>bX e) eh eh) ae ?_;rintro _ _⟨b4,a3,rfl,rfl⟩;refine JM ?_;intros;exact KX.en ⟨b4,a3,rfl,rfl⟩
 have b5 : (i:Int).toNat<xs.length:=ab;have a4:(i:Int).toNat=i:=ab;have a0:=vy (s:=xs) (l:=(f,a,m)) a7;have a9:=b0 _ (aJ a7);rw[←a4] at a0 a9;rw[a4] at a0;generalize insG (xs.take i) (f,a,m)=z at *;dsimp only at a0;obtain⟨y,hy⟩:∃y,xs[(i:Int).toNat]! = y:=⟨_,rfl⟩;rw[show xs[i]! = y by rw[←hy,a4]] at a0;have b2:=a9;rw[hy] at b2;obtain⟨yf,ya,yn⟩:=y;have b1:=b2;unfold LotOk at b1;dsimp only at b1;unfold insS at a0;dsimp only at a0;refine JM ?_;intros;rw[hy];simp only[aj];by_cases h1:yf<f
 ·rw[if_pos (.inl h1)] at a0;refine JM ?_;intros;refine GO.ef (Ef.d7 (enc:=aj) (yf,ya,yn) rfl rfl rfl rfl rfl aK (bX _) ab ab) ae ?_;rintro _ _⟨ad3,cap3,rfl,rfl⟩;refine JM ?_;intros;refine⟨(i+1,ad3,cap3,ad2,c2),by dsimp only;omega,by dsimp only;omega,?_,?_⟩
  ·dsimp only;rw[a0,aY i];exact av
  ·dsimp only;rw[a0];exact ag
 by_cases h2:yf=f
 ·by_cases h3:ya+yn<z.2.2.1
  ·rw[if_pos (.inr ⟨h2,h3⟩)] at a0;refine JM ?_;intros;refine GO.ef (Ef.d7 (enc:=aj) (yf,ya,yn) rfl rfl rfl rfl rfl aK (bX _) ab ab) ae ?_;rintro _ _⟨ad3,cap3,rfl,rfl⟩;refine JM ?_;intros;refine⟨(i+1,ad3,cap3,ad2,c2),by dsimp only;omega,by dsimp only;omega,?_,?_⟩
   ·dsimp only;rw[a0,aY i];exact av
   ·dsimp only;rw[a0];exact ag
  rw[if_neg (fun q=>q.elim h1 (fun q=>h3 q.2))] at a0;by_cases h4:z.2.2.2<ya
  ·rw[if_pos (.inr h4)] at a0;refine JM ?_;intros;refine GO.ef (Ef.d7 (enc:=aj) (yf,ya,yn) rfl rfl rfl rfl rfl aK (bX _) ab ab) ae ?_;rintro _ _⟨ad3,cap3,rfl,rfl⟩;refine JM ?_;intros;refine⟨(i+1,a2,c1,ad3,cap3),by dsimp only;omega,by dsimp only;omega,?_,?_⟩
   ·dsimp only;rw[a0,aY i];exact av
   ·dsimp only;rw[a0];exact ag
  rw[if_neg (fun q=>q.elim (fun q=>by omega) h4)] at a0;refine JM ?_;intros;refine⟨(i+1,a2,c1,ad2,c2),by dsimp only;omega,by dsimp only;omega,?_,?_⟩
  ·dsimp only;rw[a0,aY i];exact av
  ·dsimp only;rw[a0];exact ag
 have h5:f<yf:=ab;rw[if_neg (fun q=>q.elim h1 (fun q=>h2 q.1)),if_pos (.inl h5)] at a0;refine JM ?_;intros;refine GO.ef (Ef.d7 (enc:=aj) (yf,ya,yn) rfl rfl rfl rfl rfl aK (bX _) ab ab) ae ?_;rintro _ _⟨ad3,cap3,rfl,rfl⟩;refine JM ?_;intros;refine⟨(i+1,a2,c1,ad3,cap3),by dsimp only;omega,by dsimp only;omega,?_,?_⟩
 ·dsimp only;rw[a0,aY i];exact av
 ·dsimp only;rw[a0];exact ag
