/- Lemmas. -/
import Derived.Test.YtommnllbflbdmaaGreatDoorAas
set_option linter.all false
set_option maxHeartbeats 4000000
namespace Go.Proofs.YtommnllbflbdmaaGreatDoor
section
open Go.V
attribute [local irreducible] G GO GP GPW GPK Ev Ef EfR Ent CB GB V.Enters
def uy{α β:Type}{e1:α→LV}{e2:β→LV}{s1 s2:Nat}{a1 a2:OA}{x1:List α}{x2:List β}:∀ι h,Stars [isl e1 s1 a1 x1,isl e2 s2 a2 x2] ι h→Stars [isl e1 s1 a1 x1,isl e2 s2 a2 x2] ι Hp.emp:=by
 rintro ι h ⟨ι₀,h₁,h₂,a,b,c,d,e,ι₁,h₃,h₄,a',b',c',d',e',f'⟩;exact⟨ι₀,Hp.emp,Hp.emp,a,Hp.d8 _,Hp.d7 _,Hp.d7 _,e,ι₁,Hp.emp,Hp.emp,a',Hp.d8 _,Hp.d7 _,Hp.d7 _,e',trivial⟩
def wts(l:LL):List Int:=l.map (fun x=>x.2.2)
def ue(l:LL):(wts l).length=l.length:=by simp[wts]
def nW{l:LL}{k:Nat}(h:k<l.length):(wts l)[k]! = l[k]!.2.2:=el _ h
def jP{l:LL}{n:Int}(hl:∀x∈l,LotOk x)(h0:0≤n)(h1:n≤lsum l){k:Nat}(hk:k<l.length):0≤shQ l n k∧shQ l n k≤l[k]!.2.2:=by
 have hs:=jk hl hk;have hw:=hl _ (aI hk);unfold LotOk at hw;refine⟨jF (dI h0 ab) ab,?_⟩;unfold shQ;refine Int.ediv_le_of_le_mul hs ?_;rw[Int.mul_comm];exact Int.mul_le_mul_of_nonneg_left h1 ab
def vO{L:LH}(n w s:Int)(h0:0≤n)(h1:n≤1099511627776)(h2:0≤w)(h3:w≤1152921504606846976)(h4:0<s)(h5:s≤1152921504606846976)(hq:n*w / s≤1099511627776) :
  Tri ai 322 #[ac n,ac w,ac s] L (fun v L'=>v=.tuple #[.int .u64 (n*w / s),.int .u64 (n*w % s),ac 0]∧L' = L):=by
 obtain⟨nN,rfl⟩:∃nN:Nat,n=(nN:Int):=⟨n.toNat,ab⟩;obtain⟨wN,rfl⟩:∃wN:Nat,w=(wN:Int):=⟨w.toNat,ab⟩;obtain⟨sN,rfl⟩:∃sN:Nat,s=(sN:Int):=⟨s.toNat,ab⟩;have e1:(nN:Int)*(wN:Int) / (sN:Int)=((nN*wN / sN:Nat):Int):=by rw[Int.natCast_ediv,gw]
 have e2:(nN:Int)*(wN:Int) % (sN:Int)=((nN*wN % sN:Nat):Int):=by rw[Int.natCast_emod,gw]
 rw[e1] at hq;rw[e1,e2];exact wQ nN wN sN ab ab ab ab ab
def wJ{E cap:Nat}{ad:OA}{α:Type}[Inhabited α]{enc:α→Value}(h1:OneCell enc){xs:List α}{Lc:LH}{g:Nat}{cb:Array Value}(cf:α→α→Int)(hO:Go.Sort.SWO (ltOf cf))(a3:V.Enters ai g)(a0:∀ι h,Stars Lc ι h→Stars Lc ι Hp.emp)(a1:∀x y:α,Tri ai g (#[enc x,enc y]++cb) Lc (fun u _=>u=ac (cf x y)))(a2:xs.length<4611686018427387904) :
  Tri ai 323 #[ah ad xs.length cap,.func (.func g) #[] cb] (osl (fun x=>[enc x]) 1 E ad cap xs::Lc) (fun v L'=>v=.tuple #[]∧∃ys,ez cf xs ys∧L' = osl (fun x=>[enc x]) 1 E ad cap ys::Lc) :=
 Tri.d9 (ρ:=Tryz.sortI_ren) Tryz.sortI { Tryz.sortI with } h1 cf hO Jl a3 a0 a1 a2
def qy(n:Nat):(List.finRange n).map (fun i=>i.val)=List.range n:=by
 apply dS
 ·simp
 ·intro i h1 h2;simp
def ie{f:Nat→Int}{n k:Nat}(h:k<n):((List.range n).map f)[k]! = f k:=by
 rw[getElem!_of (by simpa using h)];simp
def wh(R:Nat→Int)(n:Nat)(i j:Fin n):Int:=shCf ((List.range n).map R) i.val j.val
def oG(R:Nat→Int)(n:Nat)(i j:Fin n):wh R n i j<0↔R j.val<R i.val∨(R j.val=R i.val∧i.val<j.val):=by
 unfold wh;rw[Ib,ie i.isLt,ie j.isLt]
def EV(R:Nat→Int)(n:Nat):Go.Sort.SWO (ltOf (wh R n)) where
 irrefl x:=by simp only[ltOf,decide_eq_false_iff_not];rw[oG];omega
 trans x y z h1 h2:=by simp only[ltOf,decide_eq_true_eq] at *;rw[oG] at *;omega
 ntrans x y z h1 h2:=by simp only[ltOf,decide_eq_false_iff_not] at *;rw[oG] at *;omega
abbrev tU64:Nat:=238
abbrev Co:Nat:=352
abbrev xh:=ay6 [.ev 10,.ef 11,.ev 12,.ef 13,.ev 14,.ef 15]
def cP{φ ψ:Prop}(k:ψ)(h:Hid ψ→φ:=by intro k;(with_reducible apply G.d7);first|refine G.dr 100 23 xh (Hid.out k)):φ:=h ⟨k⟩
def NM{φ ψ:Prop}(k:ψ)(h:Hid ψ→φ:=by intro k;(repeat (first|refine aa ?_|intro zzz|refine G.dr 100 23 xh ?_));(repeat revert zzz);exact Hid.out k):φ:=h ⟨k⟩
def Cr{L:LH}(ad:OA)(c:Nat)(l:LL)(n:Int)[d6:Rds L ad Int (encZ .i64) 1 (wts l)](e1:l.length≤4096)(hl:∀x∈l,LotOk x)(b4:l≠[])(h0:0≤n)(h1:n≤lsum l)(h2:n≤1099511627776) :
  Tri ai 300 #[ac n,ah ad l.length c] L (fun v L'=>∃b3 a8,v=.tuple #[ah b3 l.length a8,ac 0]∧L' = osl (encZ .i64) 1 tInt b3 a8 ((List.range l.length).map (shC l n))::L):=by
 have a7:0<l.length:=List.length_pos_iff.2 b4;have d4:=ue l;have hs:=jk hl a7;have d0:=gV hl l.length (aB _);rw[iu] at d0;have hm:(l.length:Int)*1099511627776≤4096*1099511627776:=bV ab ag;refine Tri.bd ?_;refine NM ?_;intros;refine GO.ca (my n) ?_;rintro _ L ⟨rfl,rfl⟩;rw[aS (show kr n from⟨h0,h2⟩)];repeat first|((fail_if_success (with_reducible refine G.d9 4 ?_));(with_reducible apply G.seq))|refine bW ?_|intro _|refine cP ?_
 refine G.d8 (α:=Unit) (fun _=>True) (fun _=>[(0,ac n),(1,ah ad l.length c),(6,ac (lsum l))]) (fun _=>L) ?_ ?_
 ·refine NM ?_;intros;refine G.loop (α:=Nat) (fun i=>i≤l.length) (fun i=>[(0,ac n),(1,ah ad l.length c),(6,ac (lsum (l.take i))),(21,ah ad l.length c),(22,ac l.length),(23,ac (i:Int))]) (fun _=>L) (fun i=>l.length - i) 0 (aw _) av (Ent.refl _) ?_;intro i hi;by_cases a1:i<l.length
  case neg =>
   have b2:i=l.length:=ab;subst b2;rw[iu];refine NM ?_;intros;exact⟨(),trivial,av,Ent.refl _⟩
  have a6:(i:Int).toNat=i:=ab;have a9:=hl _ (aI a1);unfold LotOk at a9;have c4:=gV hl i ab;have d1:=eJ l a1;have c0:(i:Int)*1099511627776≤4096*1099511627776:=bV ab ag;refine NM ?_;intros;rw[a6,nW a1];refine GO.ca (my l[i]!.2.2) ?_;rintro _ L ⟨rfl,rfl⟩;rw[aS (show kr l[i]!.2.2 from⟨ab,ab⟩)];refine NM ?_;intros;refine⟨i+1,ab,ab,?_,Ent.refl _⟩;rw[d1,aV i];exact av
 rintro _ _;refine NM ?_;intros;refine GO.ef (Ef.makeSlice (encZ .i64) 0 rfl rfl rfl ab ab ab) ag ?_;rintro _ _⟨bp,rfl,rfl⟩;rw[aC,←ko l.length (shQ l n)];refine NM ?_;intros;refine GO.ef (Ef.makeSlice (encZ .u64) 0 rfl rfl rfl ab ab ab) ag ?_;rintro _ _⟨br,rfl,rfl⟩;rw[aC,←ko l.length (shR l n)];refine NM ?_;intros;rename_i bv;refine GO.ef (Ef.makeSlice (encZ .i64) 0 rfl rfl rfl ab ab ab) ag ?_;rintro _ _⟨bo,rfl,rfl⟩;rw[aC,←ko l.length (fun k:Nat=>(k:Int))];repeat first|((fail_if_success (with_reducible refine G.d9 19 ?_));(with_reducible apply G.seq))|refine bW ?_|intro _|refine cP ?_
 refine G.d8 (α:=Unit) (fun _=>True) (fun _=>[(9,ah (some ⟨bp,0,none⟩) l.length l.length),(10,ax bv),(11,ah (some ⟨bo,0,none⟩) l.length l.length),(12,ac (ge l n))])
  (fun _=>osl (encZ .i64) 1 tInt (some ⟨bp,0,none⟩) l.length ((List.range l.length).map (shQ l n))::obj bv Co [ah (some ⟨br,0,none⟩) l.length l.length]::osl (encZ .u64) 1 tU64 (some ⟨br,0,none⟩) l.length ((List.range l.length).map (shR l n))::osl (encZ .i64) 1 tInt (some ⟨bo,0,none⟩) l.length ((List.range l.length).map (fun k:Nat=>(k:Int)))::L) ?_ ?_
 ·refine NM ?_;intros
  refine G.loop (α:=Nat) (fun i=>i≤l.length) (fun i=>[(0,ac n),(1,ah ad l.length c),(6,ac (lsum l)),(9,ah (some ⟨bp,0,none⟩) l.length l.length),(10,ax bv),(11,ah (some ⟨bo,0,none⟩) l.length l.length),(12,ac (n - db i (shQ l n))),(49,ac l.length),(50,ac (i:Int))])
   (fun i=>osl (encZ .i64) 1 tInt (some ⟨bp,0,none⟩) l.length (gx l.length i (shQ l n))::obj bv Co [ah (some ⟨br,0,none⟩) l.length l.length]::osl (encZ .u64) 1 tU64 (some ⟨br,0,none⟩) l.length (gx l.length i (shR l n))::osl (encZ .i64) 1 tInt (some ⟨bo,0,none⟩) l.length (gx l.length i (fun k:Nat=>(k:Int)))::L) (fun i=>l.length - i) 0 (aw _) ?_ ae ?_
  ·rw[kh,fG];exact av
  intro i hi;have d2:=kf l.length i (shQ l n);have e4:=kf l.length i (shR l n);have d5:=kf l.length i (fun k:Nat=>(k:Int));by_cases a1:i<l.length
  case neg =>
   have b2:i=l.length:=ab;subst b2;rw[lc,lc,lc,←kR];refine NM ?_;intros;exact⟨(),trivial,av,by exact ae⟩
  have a6:(i:Int).toNat=i:=ab;have a9:=hl _ (aI a1);unfold LotOk at a9
  have d3:0≤db i (shQ l n)∧db i (shQ l n)≤lsum (l.take i):=by
   rw[show lsum (l.take i)=db i (fun k=>l[k]!.2.2) by unfold db;rw[mG l i hi]];refine⟨?_,lB (fun k hk=>(jP hl h0 h1 ab).2)⟩;have:=lB (n:=i) (f:=fun _=>0) (g:=shQ l n) (fun k hk=>(jP hl h0 h1 ab).1)
   rw[nH] at this;omega
  have c4:=gV hl i ab;have c0:(i:Int)*1099511627776≤4096*1099511627776:=bV ab ag;have c6:=eG i (shQ l n);obtain⟨q1,q2⟩:=jP hl h0 h1 a1;have e6:0≤shR l n i:=dA _ ab;have e0:shR l n i<lsum l:=dF _ hs;refine NM ?_;intros;rw[a6,nW a1];refine GO.cr (vO n l[i]!.2.2 (lsum l) h0 h2 ab ab hs ab (by have:=q2;unfold shQ at this;omega)) ?_;rw[show n*l[i]!.2.2 / lsum l=shQ l n i from rfl,show n*l[i]!.2.2 % lsum l=shR l n i from rfl];refine NM ?_;intros;have h3:(gx l.length i (fun k:Nat=>(k:Int))).set i (i:Int)=gx l.length (i+1) (fun k:Nat=>(k:Int)):=la _ a1;rw[a6,la (shQ l n) a1,la (shR l n) a1,h3];refine⟨i+1,ab,ab,?_,by exact ae⟩;rw[c6,show n - (db i (shQ l n)+shQ l n i)=n - db i (shQ l n) - shQ l n i by omega,aV i];exact av
 rintro _ _;obtain⟨c7,e5⟩:=ma (n:=n) hl b4;haveI:Inhabited (Fin l.length):=⟨⟨0,a7⟩⟩
 have b0:((List.range l.length).map (shR l n)).length=l.length:=by simp
 have b9:(List.range l.length).map (fun k:Nat=>(k:Int))=(List.finRange l.length).map (fun i:Fin l.length=>(i.val:Int)):=by
  rw[←qy,gy];rfl
 have b8:(List.finRange l.length).length=l.length:=by simp
 rw[b9];refine G.ent (L':=osl (fun x:Fin l.length=>[Value.int .i64 (x.val:Int)]) 1 tInt (some ⟨bo,0,none⟩) l.length (List.finRange l.length)::isl rc 1 (some ⟨bv,0,none⟩) [⟨some ⟨br,0,none⟩,((List.range l.length).map (shR l n)).length,l.length⟩]::isl (encZ .u64) 1 (some ⟨br,0,none⟩) ((List.range l.length).map (shR l n))::osl (encZ .i64) 1 tInt (some ⟨bp,0,none⟩) l.length ((List.range l.length).map (shQ l n))::L) ?_ ?_
 ·refine(Ent.frz (some ⟨br,0,none⟩)).trans ?_;refine(Ent.at (A:=obj bv Co [ah (some ⟨br,0,none⟩) l.length l.length]) (Ent.f7 (enc:=rc) (sz:=1) (xs:=[⟨some ⟨br,0,none⟩,((List.range l.length).map (shR l n)).length,l.length⟩]) (by rw[b0];rfl) rfl (fun _ _=>rfl) bZ)).trans ?_;refine(Ent.frz (some ⟨bv,0,none⟩)).trans ?_;refine(Ent.at (A:=osl (encZ .i64) 1 tInt (some ⟨bo,0,none⟩) l.length ((List.finRange l.length).map (fun i:Fin l.length=>(i.val:Int)))) (Ent.n9 (f:=fun i:Fin l.length=>(i.val:Int)) (enc:=encZ .i64))).trans ?_;show Ent (osl (fun x:Fin l.length=>[Value.int .i64 (x.val:Int)]) 1 tInt (some ⟨bo,0,none⟩) l.length (List.finRange l.length)::_) _;exact ae
 refine NM ?_;intros;have a3:=wJ (E:=tInt) (cap:=(List.finRange l.length).length) (ad:=some ⟨bo,0,none⟩) (enc:=fun i:Fin l.length=>Value.int .i64 (i.val:Int)) (by intro x;rfl) (xs:=List.finRange l.length) (Lc:=[isl rc 1 (some ⟨bv,0,none⟩) [⟨some ⟨br,0,none⟩,((List.range l.length).map (shR l n)).length,l.length⟩],isl (encZ .u64) 1 (some ⟨br,0,none⟩) ((List.range l.length).map (shR l n))]) (g:=324) (cb:=#[ax bv]) (wh (shR l n) l.length) (EV _ _) en324.1 uy (fun x y=>yY bv (some ⟨br,0,none⟩) l.length ((List.range l.length).map (shR l n)) x.val y.val (by rw[b0];exact x.isLt) (by rw[b0];exact y.isLt) (by rw[b0];omega)) (by rw[b8];omega);rw[b8] at a3;(first|refine GO.ef (Ef.call (a3) rfl cJ) ag ?_);rintro _ _⟨_,⟨rfl,ys,⟨b6,b7⟩,rfl⟩,hL⟩;simp only[ao,an] at hL;subst hL
 have a2:(ys.map (fun i=>i.val)).Perm (List.range l.length):=by
  rw[←qy];exact b6.map _
 have a4:(ys.map (fun i=>i.val)).Pairwise (rkLt (shR l n)):=by
  refine wX a2 ?_;rw[List.pairwise_map];refine b7.imp ?_;intro a b c9;rw[oG] at c9;omega
 obtain⟨o,ho⟩:∃o,o=ys.map (fun i=>i.val):=⟨_,rfl⟩;rw[←ho] at a2 a4;have c8:o.length=l.length:=by have:=a2.length_eq;simpa using this
 have e2:(o.map (fun k:Nat=>(k:Int))).length=l.length:=by simpa using c8
 have c5:∀i,i<o.length→(o.map (fun k:Nat=>(k:Int)))[i]! = (o[i]! : Int):=fun i hi=>el _ hi;have c1:∀i,i<o.length→o[i]! < l.length:=fun i hi=>List.mem_range.1 (a2.mem_iff.1 (aI hi));refine GO.ent (L':=osl (encZ .i64) 1 tInt (some ⟨bo,0,none⟩) l.length (o.map (fun k:Nat=>(k:Int)))::osl (encZ .i64) 1 tInt (some ⟨bp,0,none⟩) l.length ((List.range l.length).map (shQ l n))::L) ?_ ?_
 ·have e:ys.map (fun i:Fin l.length=>(i.val:Int))=o.map (fun k:Nat=>(k:Int)):=by rw[ho,gy];rfl
  rw[←e];refine(show Ent _ (osl (encZ .i64) 1 tInt (some ⟨bo,0,none⟩) l.length (ys.map (fun i:Fin l.length=>(i.val:Int)))::_) from Ent.n8 (f:=fun i:Fin l.length=>(i.val:Int)) (enc:=encZ .i64)).trans ?_;exact ae
 clear b7 b6 ho ys;refine NM ?_;intros
 refine G.loop (α:=Nat) (fun i=>(i:Int)≤ge l n) (fun i=>[(9,ah (some ⟨bp,0,none⟩) l.length l.length),(11,ah (some ⟨bo,0,none⟩) l.length l.length),(85,ac (ge l n)),(86,ac (i:Int))])
  (fun i=>osl (encZ .i64) 1 tInt (some ⟨bo,0,none⟩) l.length (o.map (fun k:Nat=>(k:Int)))::osl (encZ .i64) 1 tInt (some ⟨bp,0,none⟩) l.length ((List.range l.length).map (fun k=>shQ l n k+if k∈o.take i then 1 else 0))::L) (fun i=>(ge l n).toNat - i) 0 c7 av ?_ ?_
 ·have e:(List.range l.length).map (fun k=>shQ l n k+if k∈o.take 0 then 1 else 0)=(List.range l.length).map (shQ l n):=dc (fun k _=>by simp);rw[e];exact ae
 intro i hi;by_cases a1:(i:Int)<ge l n
 case neg =>
  have e:(List.range l.length).map (fun k=>shQ l n k+if k∈o.take i then 1 else 0)=(List.range l.length).map (shC l n):=by
   apply dc;intro k hk;have c3:=List.mem_range.1 hk;unfold shC;rw[oH];congr 1;have h3:=iR a2 a4 (m:=i) c3;by_cases h4:fi (shR l n) l.length k<i
   ·rw[if_pos (h3.2 h4),if_pos ab]
   ·rw[if_neg (fun h=>h4 (h3.1 h)),if_neg ab]
  rw[e];refine NM ?_;intros;exact KX.en ⟨some ⟨bp,0,none⟩,l.length,rfl,rfl⟩
 have a6:(i:Int).toNat=i:=ab;have a5:i<o.length:=ab;have a0:=c1 i a5;have e3:((List.range l.length).map (fun k=>shQ l n k+if k∈o.take i then 1 else 0)).length=l.length:=by simp
 have c2:((List.range l.length).map (fun k=>shQ l n k+if k∈o.take i then 1 else 0))[o[i]!]! = shQ l n o[i]!:=by
  rw[ie a0,if_neg,da];intro b1;have h3:=(iR a2 a4 a0).1 b1;rw[getElem!_of a5,jR a2 a4 a5] at h3;omega
 obtain⟨q1,q2⟩:=jP hl h0 h1 a0;have a9:=hl _ (aI a0);unfold LotOk at a9;refine NM ?_;intros;rw[a6,c5 i a5];have b5:((o[i]! : Nat):Int).toNat=o[i]!:=ab;refine NM ?_;intros;rw[b5,c2];refine NM ?_;intros
 have e:((List.range l.length).map (fun k=>shQ l n k+if k∈o.take i then 1 else 0)).set o[i]! (shQ l n o[i]! + 1)=(List.range l.length).map (fun k=>shQ l n k+if k∈o.take (i+1) then 1 else 0):=by
  apply dS
  ·simp
  ·intro k h3 h4;have hk:k<l.length:=by simpa using h4
   rw[fJ];simp only[dR,List.getElem_range];have m1:=iR a2 a4 (m:=i) hk;have m2:=iR a2 a4 (m:=i+1) hk;by_cases h5:o[i]! = k
   ·subst h5;have h6:fi (shR l n) l.length o[i]! = i:=by rw[getElem!_of a5];exact jR a2 a4 a5
    rw[if_pos rfl,if_pos (m2.2 ab)]
   ·rw[if_neg h5];congr 1
    have h6:fi (shR l n) l.length k≠i:=by
     intro h7;refine h5 (tz (R:=shR l n) a0 hk ?_);rw[h7,getElem!_of a5];exact jR a2 a4 a5
    by_cases h7:fi (shR l n) l.length k<i
    ·rw[if_pos (m1.2 h7),if_pos (m2.2 ab)]
    ·rw[if_neg (fun h=>h7 (m1.1 h)),if_neg (fun h=>absurd (m2.1 h) ab)]
 rw[b5,e];refine⟨i+1,ab,ab,?_,by exact ae⟩;rw[aV i];exact av
def vS{L:LH}(n w s:Int)(h0:0≤n)(h1:n≤1099511627776)(h2:0≤w)(h3:w≤1152921504606846976)(h4:0<s)(h5:s≤1152921504606846976)(hq:n*w / s≤1099511627776) :
  Tri ai 307 #[ac n,ac w,ac s] L (fun v L'=>v=.tuple #[ac (n*w / s),ac (n*w % s),.bool true]∧L' = L):=by
 obtain⟨N,rfl⟩:∃N:Nat,n=N:=⟨n.toNat,ab⟩;obtain⟨W,rfl⟩:∃W:Nat,w=W:=⟨w.toNat,ab⟩;obtain⟨S,rfl⟩:∃S:Nat,s=S:=⟨s.toNat,ab⟩;have e1:((N*W / S:Nat):Int)=(N:Int)*W / S:=by rw[←gw];rfl
 have e2:((N*W % S:Nat):Int)=(N:Int)*W % S:=by rw[←gw];rfl
 have h:=xc (L:=L) N W S ab ab ab ab (by rw[←e1] at hq;exact Int.ofNat_le.1 hq);rw[e1,e2] at h;exact h
def tD{L:LH}(n:Int)(h0:0≤n)(h1:n≤1099511627776):Tri ai 306 #[ac n] L (fun v L'=>v=.bool true∧L' = L):=by
 refine Tri.bd ?_;refine Jq ?_;intros;exact KX.d7 al (Ent.refl _) ⟨by rw[aS h1];rfl,rfl⟩
def pG{f:Nat→Int}{n b:Nat}{v:Int}:((List.range n).map f).set b v=(List.range n).map (fun k=>if k=b then v else f k):=by
 apply dS
 ·simp
 ·intro k h1 h2;rw[fJ];by_cases e:b=k
  ·subst e;simp
  ·rw[if_neg e];simp;intro q;exact absurd q.symm e
def jc{f g:Nat→Int}{n:Nat}(h:∀k,k<n→f k=g k):(List.range n).map f=(List.range n).map g:=dc (fun k hk=>h k (List.mem_range.1 hk))
def spO(l:LL)(n:Int)(m k:Nat):Int:=shQ l n k+(if fi (shR l n) l.length k<m then 1 else 0)
def spR(l:LL)(n:Int)(m k:Nat):Int:=if fi (shR l n) l.length k<m then -1 else shR l n k
def Ia{R:Nat→Int}{n m b:Nat}(hR:∀k,k<n→0≤R k)(hm:m<n)(hb:b<n)(h1:∀j,j<n→(if fi R n j<m then(-1:Int) else R j)≤(if fi R n b<m then -1 else R b))(h2:∀j,j<b→(if fi R n j<m then(-1:Int) else R j)<(if fi R n b<m then -1 else R b)):fi R n b=m:=by
 obtain⟨k,hk,a4,a3⟩:=Jc (R:=R) hm;by_cases e:b=k
 ·rw[e];exact a4
 exfalso;have a1:=h1 k hk;rw[if_neg (by omega:¬fi R n k<m)] at a1;have r0:=hR k hk;have a0:¬fi R n b<m:=fun q=>by rw[if_pos q] at a1;omega
 rw[if_neg a0] at a1;rcases a3 b hb e ab with q|⟨q1,q2⟩
 ·omega
 ·have a2:=h2 k q2;rw[if_neg (by omega:¬fi R n k<m),if_neg a0] at a2;omega
def GG{l:LL}{n:Int}{m b:Nat}(hb:b<l.length)(h:fi (shR l n) l.length b=m):((List.range l.length).map (spO l n m)).set b (spO l n m b+1)=(List.range l.length).map (spO l n (m+1)):=by
 rw[pG];apply jc;intro k hk;by_cases e:k=b
 ·rw[if_pos e];subst e;unfold spO;rw[if_neg ab,if_pos ab];omega
 ·rw[if_neg e];have:fi (shR l n) l.length k≠m:=fun q=>e (tz hk hb (by rw[q,h]));unfold spO;by_cases c:fi (shR l n) l.length k<m
  ·rw[if_pos c,if_pos ab]
  ·rw[if_neg c,if_neg ab]
def GD{l:LL}{n:Int}{m b:Nat}(hb:b<l.length)(h:fi (shR l n) l.length b=m):((List.range l.length).map (spR l n m)).set b (-1)=(List.range l.length).map (spR l n (m+1)):=by
 rw[pG];apply jc;intro k hk;by_cases e:k=b
 ·rw[if_pos e];subst e;unfold spR;rw[if_pos ab]
 ·rw[if_neg e];have:fi (shR l n) l.length k≠m:=fun q=>e (tz hk hb (by rw[q,h]));unfold spR;by_cases c:fi (shR l n) l.length k<m
  ·rw[if_pos c,if_pos ab]
  ·rw[if_neg c,if_neg ab]
def uu{l:LL}(hl:∀x∈l,LotOk x)(a0:l.length≤4096):lsum l≤4096*1099511627776:=by
 have h:=(gV hl l.length (aB _)).2;rw[iu] at h;have h2:(l.length:Int)*1099511627776≤4096*1099511627776:=bV ab ag;omega
abbrev zt:=ay5 [.ev 8]
def Oe{φ ψ:Prop}(k:ψ)(h:Hid ψ→φ:=by intro k;(repeat (first|refine aa ?_|intro zzz|refine G.dr 113 26 zt ?_));(repeat revert zzz);exact Hid.out k):φ:=h ⟨k⟩
def zf{L:LH}(ad:OA)(c:Nat)(l:LL)(n:Int)[e6:Rds L ad Int (encZ .i64) 1 (wts l)](c9:l.length≤4096)(hl:∀x∈l,LotOk x)(b2:l≠[])(h0:0≤n)(h1:n≤lsum l)(h2:n≤1099511627776) :
  Tri ai 290 #[ac n,ah ad l.length c] L (fun v L'=>∃b3 a9,v=.tuple #[ah b3 l.length a9,ac 0]∧L' = osl (encZ .i64) 1 tInt b3 a9 ((List.range l.length).map (shC l n))::L):=by
 have e5:=ue l;have a8:0<l.length:=List.length_pos_iff.2 b2;have d0:=jk hl a8;have f3:=uu hl c9;refine Tri.bd ?_;refine Oe ?_;intros;refine G.loop (α:=Nat) (fun i=>i≤l.length) (fun i=>[(0,ac n),(1,ah ad l.length c),(6,ac (lsum (l.take i))),(7,ac (i:Int))]) (fun _=>L) (fun i=>l.length - i) 0 (aw _) av (Ent.refl _) ?_;intro i hi;have f0:=gV hl i hi;have g0:(i:Int)*1099511627776≤4096*1099511627776:=bV ab ag;by_cases a5:i<l.length
 case pos =>
  have a6:(i:Int).toNat=i:=aC i;have hw:(wts l)[(i:Int).toNat]! = l[i]!.2.2:=by rw[a6];exact nW a5
  have b7:=hl _ (aI a5);have f1:=b7.w;obtain⟨o1,o2,o3,o4,o5⟩:=b7;have d5:=eJ l a5;refine Oe ?_;intros;rw[hw];refine GO.ca (tD l[i]!.2.2 ab ab) ?_;rintro _ L ⟨rfl,rfl⟩;refine Oe ?_;intros;rw[hw];refine Oe ?_;intros;refine⟨i+1,ab,ab,?_,Ent.refl _⟩;rw[aV i,d5];exact av
 obtain rfl:i=l.length:=ab;rw[iu];refine Oe ?_;intros;refine GO.ca (tD n h0 h2) ?_;rintro _ L ⟨rfl,rfl⟩;refine Oe ?_;intros;refine G.loop (α:=Nat×(OA×Nat)×OA×Nat) (fun z=>z.1≤l.length) (fun z=>[(0,ac n),(1,ah ad l.length c),(6,ac (lsum l)),(10,ah z.2.1.1 z.1 z.2.1.2),(11,ah z.2.2.1 z.1 z.2.2.2),(12,ac (n - db z.1 (shQ l n))),(13,ac (z.1:Int))]) (fun z=>osl (encZ .i64) 1 tInt z.2.1.1 z.2.1.2 ((List.range z.1).map (shQ l n))::osl (encZ .i64) 1 tInt z.2.2.1 z.2.2.2 ((List.range z.1).map (shR l n))::L) (fun z=>l.length - z.1) (0,(none,0),none,0) (aw _) ?_ ((Ent.d8 (encZ .i64) 1 tInt).trans (Ent.d8 (encZ .i64) 1 tInt)) ?_
 ·rw[kh,fG];exact av
 rintro⟨i,⟨a1,c1⟩,a2,c2⟩ hi;dsimp only at hi ⊢;have e0:((List.range i).map (shQ l n)).length=i:=by simp
 have c8:((List.range i).map (shR l n)).length=i:=by simp
 have f5:0≤db i (shQ l n)∧db i (shQ l n)≤n:=by
  have h3:db l.length (shQ l n)≤n:=by
   have:=(ma (n:=n) hl b2).1
   rw[kR] at this;omega
  have h4:∀j,j≤l.length→0≤db j (shQ l n):=by
   intro j;induction j with
   | zero=>intro _;exact bg _
   | succ j ih =>
    intro hj;rw[eG];have:=ih ab
    have:=(jP hl h0 h1 (ab:j<l.length)).1
    omega
  have h5:∀d,i+d≤l.length→db i (shQ l n)≤db (i+d) (shQ l n):=by
   intro d;induction d with
   | zero=>intro _;exact bg _
   | succ d ih =>
    intro hd;have:=ih ab
    rw[show i+(d+1)=(i+d)+1 by omega,eG];have:=(jP hl h0 h1 (ab:i+d<l.length)).1
    omega
  have h6:=h5 (l.length - i) ab;rw[show i+(l.length - i)=l.length by omega] at h6;exact⟨h4 i hi,ab⟩
 by_cases a5:i<l.length
 case pos =>
  have a6:(i:Int).toNat=i:=aC i;have hw:(wts l)[(i:Int).toNat]! = l[i]!.2.2:=by rw[a6];exact nW a5
  obtain⟨o1,o2,o3,o4,o5⟩:=hl _ (aI a5);have f9:=jP hl h0 h1 a5;have eq:shQ l n i=n*l[i]!.2.2 / lsum l:=rfl;have er:shR l n i=n*l[i]!.2.2 % lsum l:=rfl;refine Oe ?_;intros;rw[hw];refine GO.cr (vS n l[i]!.2.2 (lsum l) h0 h2 ab ab d0 ab (by rw[←eq];omega)) ?_;rw[←eq,←er];refine Oe ?_;intros;refine GO.ef (Ef.d7 (enc:=encZ .i64) (shQ l n i) rfl rfl rfl e0.symm rfl aK (ni _ _) ab ab) ag ?_;rintro _ _⟨a3,c3,rfl,rfl⟩;refine Oe ?_;intros;refine GO.ef (Ef.d7 (enc:=encZ .i64) (shR l n i) rfl rfl rfl c8.symm rfl aK (ni _ _) ab ab) ag ?_;rintro _ _⟨a4,c4,rfl,rfl⟩;refine Oe ?_;intros;have e1:(List.range i).map (shQ l n)++[shQ l n i]=(List.range (i+1)).map (shQ l n):=by rw[ft,aW];rfl
  have e2:(List.range i).map (shR l n)++[shR l n i]=(List.range (i+1)).map (shR l n):=by rw[ft,aW];rfl
  rw[e1,e2];refine⟨(i+1,(a3,c3),a4,c4),by dsimp only;omega,by dsimp only;omega,?_,by exact ae⟩;dsimp only;rw[aV i,eG,show((List.range (i+1)).map (shQ l n)).length=i+1 by simp,show((List.range (i+1)).map (shR l n)).length=i+1 by simp,show n - (db i (shQ l n)+shQ l n i)=n - db i (shQ l n) - shQ l n i by omega];exact av
 obtain rfl:i=l.length:=ab;have c5:n - db l.length (shQ l n)=ge l n:=(kR l n).symm;rw[c5];obtain⟨f2,f4⟩:=ma (n:=n) hl b2;have e3:(List.range l.length).map (shQ l n)=(List.range l.length).map (spO l n 0):=jc (fun k _=>by unfold spO;rw[if_neg ab];omega);have d4:(List.range l.length).map (shR l n)=(List.range l.length).map (spR l n 0):=jc (fun k _=>by unfold spR;rw[if_neg ab]);rw[e3,d4];refine Oe ?_;intros;refine G.loop (α:=Nat) (fun m=>(m:Int)≤ge l n) (fun m=>[(0,ac n),(1,ah ad l.length c),(6,ac (lsum l)),(10,ah a1 l.length c1),(11,ah a2 l.length c2),(12,ac (ge l n - (m:Int)))]) (fun m=>osl (encZ .i64) 1 tInt a1 c1 ((List.range l.length).map (spO l n m))::osl (encZ .i64) 1 tInt a2 c2 ((List.range l.length).map (spR l n m))::L) (fun m=>(ge l n).toNat - m) 0 ab ?_ (Ent.refl _) ?_
 ·rw[show((0:Nat):Int)=0 from rfl,fG];exact av
 intro m hm;have b8:∀f:Nat→Int,((List.range l.length).map f).length=l.length:=fun f=>by simp
 by_cases d6:(m:Int)=ge l n
 ·have hO:(List.range l.length).map (spO l n m)=(List.range l.length).map (shC l n):=jc (fun k _=>by
   unfold spO shC;rw[oH,←d6];by_cases q:fi (shR l n) l.length k<m
   ·rw[if_pos q,if_pos ab]
   ·rw[if_neg q,if_neg ab])
  rw[hO];refine Oe ?_;intros;exact KX.en ⟨a1,c1,rfl,rfl⟩
 have c6:m<l.length:=ab;have d2:=b8 (spO l n m);have e4:=b8 (spR l n m);have b6:∀k,k<l.length→((List.range l.length).map (spO l n m))[k]! = spO l n m k:=fun k hk=>ie hk;have a7:∀k,k<l.length→((List.range l.length).map (spR l n m))[k]! = spR l n m k:=fun k hk=>ie hk;have b5:=fun b (hb:b<l.length) h=>GG (n:=n) (m:=m) hb h;have b9:=fun b (hb:b<l.length) h=>GD (n:=n) (m:=m) hb h;obtain⟨xs,d3⟩:∃xs,xs=(List.range l.length).map (spO l n m):=⟨_,rfl⟩;obtain⟨ys,d1⟩:∃ys,ys=(List.range l.length).map (spR l n m):=⟨_,rfl⟩;rw[←d3] at d2 b6 b5 ⊢;rw[←d1] at e4 a7 b9 ⊢;refine Oe ?_;intros;refine G.loop (α:=Nat×Nat) (fun z=>z.1≤l.length∧z.2<z.1∧(∀j,j<z.1→ys[j]!≤ys[z.2]!)∧∀j,j<z.2→ys[j]! < ys[z.2]!) (fun z=>[(0,ac n),(1,ah ad l.length c),(6,ac (lsum l)),(10,ah a1 l.length c1),(11,ah a2 l.length c2),(12,ac (ge l n - (m:Int))),(17,ac (z.2:Int)),(18,ac (z.1:Int))]) (fun _=>osl (encZ .i64) 1 tInt a1 c1 xs::osl (encZ .i64) 1 tInt a2 c2 ys::L) (fun z=>l.length - z.1) (1,0) ⟨a8,Nat.zero_lt_one,fun j hj=>(ab:j=0)▸bg _,fun j hj=>absurd hj (cl j)⟩ av (Ent.refl _) ?_;rintro⟨i,b⟩ ⟨i1,i2,i3,i4⟩;dsimp only at i1 i2 i3 i4 ⊢;have b0:(b:Int).toNat=b:=aC b;by_cases a5:i<l.length
 case pos =>
  have a6:(i:Int).toNat=i:=aC i;by_cases hc:ys[(b:Int).toNat]! < ys[(i:Int).toNat]!
  ·refine Oe ?_;intros;rw[b0,a6] at hc;refine⟨(i+1,i),⟨by dsimp only;omega,by dsimp only;omega,?_,?_⟩,by dsimp only;omega,?_,by exact ae⟩
   ·dsimp only;intro j hj;by_cases e:j=i
    ·subst e;exact bg _
    ·have:=i3 j ab;omega
   ·dsimp only;intro j hj;have:=i3 j hj
    omega
   ·dsimp only;rw[aV i];exact av
  ·refine Oe ?_;intros;rw[b0,a6] at hc;refine⟨(i+1,b),⟨by dsimp only;omega,by dsimp only;omega,?_,i4⟩,by dsimp only;omega,?_,by exact ae⟩
   ·dsimp only;intro j hj;by_cases e:j=i
    ·subst e;omega
    ·exact i3 j ab
   ·dsimp only;rw[aV i];exact av
 obtain rfl:i=l.length:=ab
 have a0:fi (shR l n) l.length b=m:=by
  refine Ia (fun k hk=>dA _ ab) c6 i2 ?_ ?_
  ·intro j hj;have:=i3 j hj
   rw[a7 j hj,a7 b i2] at this;exact this
  ·intro j hj;have:=i4 j hj
   rw[a7 j ab,a7 b i2] at this;exact this
 have b4:=b5 b i2 a0;have c0:=b9 b i2 a0
 have c7:0≤spO l n m b∧spO l n m b≤1099511627776*2:=by
  have q1:=jP hl h0 h1 i2;obtain⟨o1,o2,o3,o4,o5⟩:=hl _ (aI i2);unfold spO;split<;>omega
 rw[←b6 b i2,←b0] at b4 c7;have b1 : ys.set (b:Int).toNat (-1)=(List.range l.length).map (spR l n (m+1)):=by rw[b0];exact c0
 have f6:(b:Int).toNat<xs.length:=ab;refine Oe ?_;intros;rw[b4,b1];refine⟨m+1,ab,ab,?_,by exact ae⟩;rw[aV m,show ge l n - ((m:Int)+1)=ge l n - (m:Int) - 1 by omega];exact av
