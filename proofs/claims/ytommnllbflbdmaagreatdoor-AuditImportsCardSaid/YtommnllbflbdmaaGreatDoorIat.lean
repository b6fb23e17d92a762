/- Lemmas. -/
import Derived.Test.YtommnllbflbdmaaGreatDoorIas
set_option linter.all false
set_option maxHeartbeats 4000000
namespace Go.Proofs.YtommnllbflbdmaaGreatDoor
section
open Go.V
attribute [local irreducible] G GO GP GPW GPK Ev Ef EfR Ent CB GB V.Enters
def tF{α β:Type}{e1:α→LV}{e2:β→LV}{s1 s2:Nat}{a1 a2:OA}{x1:List α}{x2:List β}:∀ι h,Stars [isl e1 s1 a1 x1,isl e2 s2 a2 x2] ι h→Stars [isl e1 s1 a1 x1,isl e2 s2 a2 x2] ι Hp.emp:=by
 rintro ι h ⟨ι₀,h₁,h₂,a,b,c,d,e,ι₁,h₃,h₄,a',b',c',d',e',f'⟩;exact⟨ι₀,Hp.emp,Hp.emp,a,Hp.d8 _,Hp.d7 _,Hp.d7 _,e,ι₁,Hp.emp,Hp.emp,a',Hp.d8 _,Hp.d7 _,Hp.d7 _,e',trivial⟩
def wts(l:LL):List Int:=l.map (fun x=>x.2.2)
def sW(l:LL):(wts l).length=l.length:=by simp[wts]
def ny{l:LL}{k:Nat}(h:k<l.length):(wts l)[k]! = l[k]!.2.2:=dP _ h
def jt{l:LL}{n:Int}(hl:∀x∈l,LotOk x)(h0:0≤n)(h1:n≤lsum l){k:Nat}(hk:k<l.length):0≤shQ l n k∧shQ l n k≤l[k]!.2.2:=by
 have hs:=jI hl hk;have hw:=hl _ (aG hk);unfold LotOk at hw;refine⟨jd (dy h0 ab) ab,?_⟩;unfold shQ;refine Int.ediv_le_of_le_mul hs ?_;rw[Int.mul_comm];exact Int.mul_le_mul_of_nonneg_left h1 ab
def uU{L:LH}(n w s:Int)(h0:0≤n)(h1:n≤1099511627776)(h2:0≤w)(h3:w≤1152921504606846976)(h4:0<s)(h5:s≤1152921504606846976)(hq:n*w / s≤1099511627776) :
  Tri ag 322 #[ac n,ac w,ac s] L (fun v L'=>v=.tuple #[.int .u64 (n*w / s),.int .u64 (n*w % s),ac 0]∧L' = L):=by
 obtain⟨nN,rfl⟩:∃nN:Nat,n=(nN:Int):=⟨n.toNat,ab⟩;obtain⟨wN,rfl⟩:∃wN:Nat,w=(wN:Int):=⟨w.toNat,ab⟩;obtain⟨sN,rfl⟩:∃sN:Nat,s=(sN:Int):=⟨s.toNat,ab⟩;have e1:(nN:Int)*(wN:Int) / (sN:Int)=((nN*wN / sN:Nat):Int):=by rw[Int.natCast_ediv,fO]
 have e2:(nN:Int)*(wN:Int) % (sN:Int)=((nN*wN % sN:Nat):Int):=by rw[Int.natCast_emod,fO]
 rw[e1] at hq;rw[e1,e2];exact vP nN wN sN ab ab ab ab ab
def vN{E cap:Nat}{ad:OA}{α:Type}[Inhabited α]{enc:α→Value}(h1:OneCell enc){xs:List α}{Lc:LH}{g:Nat}{cb:Array Value}(cf:α→α→Int)(hO:Go.Sort.SWO (ltOf cf))(a2:V.Enters ag g)(a0:∀ι h,Stars Lc ι h→Stars Lc ι Hp.emp)(a1:∀x y:α,Tri ag g (#[enc x,enc y]++cb) Lc (fun u _=>u=ac (cf x y)))(a3:xs.length<4611686018427387904) :
  Tri ag 323 #[.slice ad xs.length cap,.func (.func g) #[] cb] (osl (fun x=>[enc x]) 1 E ad cap xs::Lc) (fun v L'=>v=.tuple #[]∧∃ys,gq cf xs ys∧L' = osl (fun x=>[enc x]) 1 E ad cap ys::Lc) :=
 Tri.d9 (ρ:=Tryz.sortI_ren) Tryz.sortI { Tryz.sortI with } h1 cf hO Ht a2 a0 a1 a3
def pG(n:Nat):(List.finRange n).map (fun i=>i.val)=List.range n:=by
 apply du
 ·simp
 ·intro i h1 h2;simp
def gL{f:Nat→Int}{n k:Nat}(h:k<n):((List.range n).map f)[k]! = f k:=by
 rw[getElem!_of (by simpa using h)];simp
def vo(R:Nat→Int)(n:Nat)(i j:Fin n):Int:=shCf ((List.range n).map R) i.val j.val
def od(R:Nat→Int)(n:Nat)(i j:Fin n):vo R n i j<0↔R j.val<R i.val∨(R j.val=R i.val∧i.val<j.val):=by
 unfold vo;rw[FU,gL i.isLt,gL j.isLt]
def CT(R:Nat→Int)(n:Nat):Go.Sort.SWO (ltOf (vo R n)) where
 irrefl x:=by simp only[ltOf,decide_eq_false_iff_not];rw[od];omega
 trans x y z h1 h2:=by simp only[ltOf,decide_eq_true_eq] at *;rw[od] at *;omega
 ntrans x y z h1 h2:=by simp only[ltOf,decide_eq_false_iff_not] at *;rw[od] at *;omega
abbrev tU64:Nat:=238
abbrev AL:Nat:=352
abbrev we:List Stp:=[.ev 0,.ev 1,.ev 2,.ev 3,.ev 4,.ev 5,.ev 6,.ev 7,.ev 8,.ev 9,.ev 10,.ef 11,.ev 12,.ef 13,.ev 14,.ef 15]
def cG{φ ψ:Prop}(k:ψ)(h:Hid ψ→φ:=by intro k;(with_reducible apply G.d8);first|refine G.d7 (N:=100) (id:=23) we mixed aw (Hid.out k)):φ:=h ⟨k⟩
def LT{φ ψ:Prop}(k:ψ)(h:Hid ψ→φ:=by intro k;(repeat (first|refine aa ?_|intro zzz|((with_reducible apply G.d8);first|refine G.d7 (N:=100) (id:=23) we mixed aw ?_)));(repeat revert zzz);exact Hid.out k):φ:=h ⟨k⟩
def AN{L:LH}(ad:OA)(c:Nat)(l:LL)(n:Int)[hrd:Rds L ad Int (encZ .i64) 1 (wts l)](d3:l.length≤4096)(hl:∀x∈l,LotOk x)(b6:l≠[])(h0:0≤n)(h1:n≤lsum l)(h2:n≤1099511627776) :
  Tri ag 300 #[ac n,.slice ad l.length c] L (fun v L'=>∃b3 a8,v=.tuple #[.slice b3 l.length a8,ac 0]∧L' = osl (encZ .i64) 1 tInt b3 a8 ((List.range l.length).map (shC l n))::L):=by
 have a9:0<l.length:=List.length_pos_iff.2 b6;have e2:=sW l;have hs:=jI hl a9;have c1:=gD hl l.length (aB _);rw[gS] at c1;have hm:(l.length:Int)*1099511627776≤4096*1099511627776:=bW ab ah;refine Tri.bd ?_;refine LT ?_;intros;refine GO.ca (lM n) ?_;rintro _ L ⟨rfl,rfl⟩;rw[aT (show jT n from⟨h0,h2⟩)];repeat first|((fail_if_success (with_reducible refine G.e7 4 ?_));(with_reducible apply G.seq))|refine bA ?_|intro _|refine cG ?_
 refine G.d9 (α:=Unit) (fun _=>True) (fun _=>[(0,ac n),(1,.slice ad l.length c),(6,ac (lsum l))]) (fun _=>L) ?_ ?_
 ·refine LT ?_;intros;refine G.loop (α:=Nat) (fun i=>i≤l.length) (fun i=>[(0,ac n),(1,.slice ad l.length c),(6,ac (lsum (l.take i))),(21,.slice ad l.length c),(22,ac l.length),(23,ac (i:Int))]) (fun _=>L) (fun i=>l.length - i) 0 (aj _) ai (Ent.refl _) ?_;intro i hi;by_cases a1:i<l.length
  case neg =>
   have b1:i=l.length:=ab;subst b1;rw[gS];refine LT ?_;intros;exact⟨(),trivial,ai,Ent.refl _⟩
  have a6:(i:Int).toNat=i:=ab;have a7:=hl _ (aG a1);unfold LotOk at a7;have c5:=gD hl i ab;have c0:=dX l a1;have b9:(i:Int)*1099511627776≤4096*1099511627776:=bW ab ah;refine LT ?_;intros;rw[a6,ny a1];refine GO.ca (lM l[i]!.2.2) ?_;rintro _ L ⟨rfl,rfl⟩;rw[aT (show jT l[i]!.2.2 from⟨ab,ab⟩)];refine LT ?_;intros;refine⟨i+1,ab,ab,?_,Ent.refl _⟩;rw[c0,aK i];exact ai
 rintro _ _;refine LT ?_;intros;refine GO.ef (Ef.makeSlice (encZ .i64) 0 rfl rfl rfl ab ab ab) ah ?_;rintro _ _⟨bp,rfl,rfl⟩;rw[ay,←jQ l.length (shQ l n)];refine LT ?_;intros;refine GO.ef (Ef.makeSlice (encZ .u64) 0 rfl rfl rfl ab ab ab) ah ?_;rintro _ _⟨br,rfl,rfl⟩;rw[ay,←jQ l.length (shR l n)];refine LT ?_;intros;rename_i bv;refine GO.ef (Ef.makeSlice (encZ .i64) 0 rfl rfl rfl ab ab ab) ah ?_;rintro _ _⟨bo,rfl,rfl⟩;rw[ay,←jQ l.length (fun k:Nat=>(k:Int))];repeat first|((fail_if_success (with_reducible refine G.e7 19 ?_));(with_reducible apply G.seq))|refine bA ?_|intro _|refine cG ?_
 refine G.d9 (α:=Unit) (fun _=>True) (fun _=>[(9,.slice (some ⟨bp,0,none⟩) l.length l.length),(10,av bv),(11,.slice (some ⟨bo,0,none⟩) l.length l.length),(12,ac (fx l n))])
  (fun _=>osl (encZ .i64) 1 tInt (some ⟨bp,0,none⟩) l.length ((List.range l.length).map (shQ l n))::obj bv AL [.slice (some ⟨br,0,none⟩) l.length l.length]::osl (encZ .u64) 1 tU64 (some ⟨br,0,none⟩) l.length ((List.range l.length).map (shR l n))::osl (encZ .i64) 1 tInt (some ⟨bo,0,none⟩) l.length ((List.range l.length).map (fun k:Nat=>(k:Int)))::L) ?_ ?_
 ·refine LT ?_;intros
  refine G.loop (α:=Nat) (fun i=>i≤l.length) (fun i=>[(0,ac n),(1,.slice ad l.length c),(6,ac (lsum l)),(9,.slice (some ⟨bp,0,none⟩) l.length l.length),(10,av bv),(11,.slice (some ⟨bo,0,none⟩) l.length l.length),(12,ac (n - cS i (shQ l n))),(49,ac l.length),(50,ac (i:Int))])
   (fun i=>osl (encZ .i64) 1 tInt (some ⟨bp,0,none⟩) l.length (fQ l.length i (shQ l n))::obj bv AL [.slice (some ⟨br,0,none⟩) l.length l.length]::osl (encZ .u64) 1 tU64 (some ⟨br,0,none⟩) l.length (fQ l.length i (shR l n))::osl (encZ .i64) 1 tInt (some ⟨bo,0,none⟩) l.length (fQ l.length i (fun k:Nat=>(k:Int)))::L) (fun i=>l.length - i) 0 (aj _) ?_ ae ?_
  ·rw[jM,fu];exact ai
  intro i hi;have e5:=jK l.length i (shQ l n);have e3:=jK l.length i (shR l n);have d5:=jK l.length i (fun k:Nat=>(k:Int));by_cases a1:i<l.length
  case neg =>
   have b1:i=l.length:=ab;subst b1;rw[kH,kH,kH,←kz];refine LT ?_;intros;exact⟨(),trivial,ai,by exact ae⟩
  have a6:(i:Int).toNat=i:=ab;have a7:=hl _ (aG a1);unfold LotOk at a7
  have e0:0≤cS i (shQ l n)∧cS i (shQ l n)≤lsum (l.take i):=by
   rw[show lsum (l.take i)=cS i (fun k=>l[k]!.2.2) by unfold cS;rw[lV l i hi]];refine⟨?_,kZ (fun k hk=>(jt hl h0 h1 ab).2)⟩;have:=kZ (n:=i) (f:=fun _=>0) (g:=shQ l n) (fun k hk=>(jt hl h0 h1 ab).1)
   rw[nj] at this;omega
  have c5:=gD hl i ab;have b9:(i:Int)*1099511627776≤4096*1099511627776:=bW ab ah;have c7:=dW i (shQ l n);obtain⟨q1,q2⟩:=jt hl h0 h1 a1;have d2:0≤shR l n i:=dD _ ab;have d6:shR l n i<lsum l:=dL _ hs;refine LT ?_;intros;rw[a6,ny a1];refine GO.cr (uU n l[i]!.2.2 (lsum l) h0 h2 ab ab hs ab (by have:=q2;unfold shQ at this;omega)) ?_;rw[show n*l[i]!.2.2 / lsum l=shQ l n i from rfl,show n*l[i]!.2.2 % lsum l=shR l n i from rfl];refine LT ?_;intros;have h3:(fQ l.length i (fun k:Nat=>(k:Int))).set i (i:Int)=fQ l.length (i+1) (fun k:Nat=>(k:Int)):=kG _ a1;rw[a6,kG (shQ l n) a1,kG (shR l n) a1,h3];refine⟨i+1,ab,ab,?_,by exact ae⟩;rw[c7,show n - (cS i (shQ l n)+shQ l n i)=n - cS i (shQ l n) - shQ l n i by omega,aK i];exact ai
 rintro _ _;obtain⟨c2,d4⟩:=lB (n:=n) hl b6;haveI:Inhabited (Fin l.length):=⟨⟨0,a9⟩⟩
 have b0:((List.range l.length).map (shR l n)).length=l.length:=by simp
 have c3:(List.range l.length).map (fun k:Nat=>(k:Int))=(List.finRange l.length).map (fun i:Fin l.length=>(i.val:Int)):=by
  rw[←pG,eO];rfl
 have b4:(List.finRange l.length).length=l.length:=by simp
 rw[c3];refine G.ent (L':=osl (fun x:Fin l.length=>[Value.int .i64 (x.val:Int)]) 1 tInt (some ⟨bo,0,none⟩) l.length (List.finRange l.length)::isl qi 1 (some ⟨bv,0,none⟩) [⟨some ⟨br,0,none⟩,((List.range l.length).map (shR l n)).length,l.length⟩]::isl (encZ .u64) 1 (some ⟨br,0,none⟩) ((List.range l.length).map (shR l n))::osl (encZ .i64) 1 tInt (some ⟨bp,0,none⟩) l.length ((List.range l.length).map (shQ l n))::L) ?_ ?_
 ·refine(Ent.frz (some ⟨br,0,none⟩)).trans ?_;refine(Ent.at (A:=obj bv AL [.slice (some ⟨br,0,none⟩) l.length l.length]) (Ent.g7 (enc:=qi) (sz:=1) (xs:=[⟨some ⟨br,0,none⟩,((List.range l.length).map (shR l n)).length,l.length⟩]) (by rw[b0];rfl) rfl (fun _ _=>rfl) (by simp))).trans ?_;refine(Ent.frz (some ⟨bv,0,none⟩)).trans ?_;refine(Ent.at (A:=osl (encZ .i64) 1 tInt (some ⟨bo,0,none⟩) l.length ((List.finRange l.length).map (fun i:Fin l.length=>(i.val:Int)))) (Ent.o8 (f:=fun i:Fin l.length=>(i.val:Int)) (enc:=encZ .i64))).trans ?_;show Ent (osl (fun x:Fin l.length=>[Value.int .i64 (x.val:Int)]) 1 tInt (some ⟨bo,0,none⟩) l.length (List.finRange l.length)::_) _;exact ae
 refine LT ?_;intros;have a5:=vN (E:=tInt) (cap:=(List.finRange l.length).length) (ad:=some ⟨bo,0,none⟩) (enc:=fun i:Fin l.length=>Value.int .i64 (i.val:Int)) (by intro x;rfl) (xs:=List.finRange l.length) (Lc:=[isl qi 1 (some ⟨bv,0,none⟩) [⟨some ⟨br,0,none⟩,((List.range l.length).map (shR l n)).length,l.length⟩],isl (encZ .u64) 1 (some ⟨br,0,none⟩) ((List.range l.length).map (shR l n))]) (g:=324) (cb:=#[av bv]) (vo (shR l n) l.length) (CT _ _) en324.1 tF (fun x y=>xM bv (some ⟨br,0,none⟩) l.length ((List.range l.length).map (shR l n)) x.val y.val (by rw[b0];exact x.isLt) (by rw[b0];exact y.isLt) (by rw[b0];omega)) (by rw[b4];omega);rw[b4] at a5;(first|refine GO.ef (Ef.call (a5) rfl (by repeat (first|exact Ent.refl _|apply Ent.take))) ah ?_);rintro _ _⟨_,⟨rfl,ys,⟨b7,b8⟩,rfl⟩,hL⟩;simp only[ax,ap] at hL;subst hL
 have a0:(ys.map (fun i=>i.val)).Perm (List.range l.length):=by
  rw[←pG];exact b7.map _
 have a4:(ys.map (fun i=>i.val)).Pairwise (rkLt (shR l n)):=by
  refine vW a0 ?_;rw[List.pairwise_map];refine b8.imp ?_;intro a b d0;rw[od] at d0;omega
 obtain⟨o,ho⟩:∃o,o=ys.map (fun i=>i.val):=⟨_,rfl⟩;rw[←ho] at a0 a4;have c8:o.length=l.length:=by have:=a0.length_eq;simpa using this
 have e4:(o.map (fun k:Nat=>(k:Int))).length=l.length:=by simpa using c8
 have c4:∀i,i<o.length→(o.map (fun k:Nat=>(k:Int)))[i]! = (o[i]! : Int):=fun i hi=>dP _ hi;have c9:∀i,i<o.length→o[i]! < l.length:=fun i hi=>List.mem_range.1 (a0.mem_iff.1 (aG hi));refine GO.ent (L':=osl (encZ .i64) 1 tInt (some ⟨bo,0,none⟩) l.length (o.map (fun k:Nat=>(k:Int)))::osl (encZ .i64) 1 tInt (some ⟨bp,0,none⟩) l.length ((List.range l.length).map (shQ l n))::L) ?_ ?_
 ·have e:ys.map (fun i:Fin l.length=>(i.val:Int))=o.map (fun k:Nat=>(k:Int)):=by rw[ho,eO];rfl
  rw[←e];refine(show Ent _ (osl (encZ .i64) 1 tInt (some ⟨bo,0,none⟩) l.length (ys.map (fun i:Fin l.length=>(i.val:Int)))::_) from Ent.o7 (f:=fun i:Fin l.length=>(i.val:Int)) (enc:=encZ .i64)).trans ?_;exact ae
 clear b8 b7 ho ys;refine LT ?_;intros
 refine G.loop (α:=Nat) (fun i=>(i:Int)≤fx l n) (fun i=>[(9,.slice (some ⟨bp,0,none⟩) l.length l.length),(11,.slice (some ⟨bo,0,none⟩) l.length l.length),(85,ac (fx l n)),(86,ac (i:Int))])
  (fun i=>osl (encZ .i64) 1 tInt (some ⟨bo,0,none⟩) l.length (o.map (fun k:Nat=>(k:Int)))::osl (encZ .i64) 1 tInt (some ⟨bp,0,none⟩) l.length ((List.range l.length).map (fun k=>shQ l n k+if k∈o.take i then 1 else 0))::L) (fun i=>(fx l n).toNat - i) 0 c2 ai ?_ ?_
 ·have e:(List.range l.length).map (fun k=>shQ l n k+if k∈o.take 0 then 1 else 0)=(List.range l.length).map (shQ l n):=cU (fun k _=>by simp);rw[e];exact ae
 intro i hi;by_cases a1:(i:Int)<fx l n
 case neg =>
  have e:(List.range l.length).map (fun k=>shQ l n k+if k∈o.take i then 1 else 0)=(List.range l.length).map (shC l n):=by
   apply cU;intro k hk;have c6:=List.mem_range.1 hk;unfold shC;rw[oe];congr 1;have h3:=iw a0 a4 (m:=i) c6;by_cases h4:eo (shR l n) l.length k<i
   ·rw[if_pos (h3.2 h4),if_pos ab]
   ·rw[if_neg (fun h=>h4 (h3.1 h)),if_neg ab]
  rw[e];refine LT ?_;intros;exact KX.en ⟨some ⟨bp,0,none⟩,l.length,rfl,rfl⟩
 have a6:(i:Int).toNat=i:=ab;have a3:i<o.length:=ab;have a2:=c9 i a3;have e1:((List.range l.length).map (fun k=>shQ l n k+if k∈o.take i then 1 else 0)).length=l.length:=by simp
 have d1:((List.range l.length).map (fun k=>shQ l n k+if k∈o.take i then 1 else 0))[o[i]!]! = shQ l n o[i]!:=by
  rw[gL a2,if_neg,Int.add_zero];intro b2;have h3:=(iw a0 a4 a2).1 b2;rw[getElem!_of a3,jv a0 a4 a3] at h3;omega
 obtain⟨q1,q2⟩:=jt hl h0 h1 a2;have a7:=hl _ (aG a2);unfold LotOk at a7;refine LT ?_;intros;rw[a6,c4 i a3];have b5:((o[i]! : Nat):Int).toNat=o[i]!:=ab;refine LT ?_;intros;rw[b5,d1];refine LT ?_;intros
 have e:((List.range l.length).map (fun k=>shQ l n k+if k∈o.take i then 1 else 0)).set o[i]! (shQ l n o[i]! + 1)=(List.range l.length).map (fun k=>shQ l n k+if k∈o.take (i+1) then 1 else 0):=by
  apply du
  ·simp
  ·intro k h3 h4;have hk:k<l.length:=by simpa using h4
   rw[fH];simp only[eW,List.getElem_range];have m1:=iw a0 a4 (m:=i) hk;have m2:=iw a0 a4 (m:=i+1) hk;by_cases h5:o[i]! = k
   ·subst h5;have h6:eo (shR l n) l.length o[i]! = i:=by rw[getElem!_of a3];exact jv a0 a4 a3
    rw[if_pos rfl,if_pos (m2.2 ab)]
   ·rw[if_neg h5];congr 1
    have h6:eo (shR l n) l.length k≠i:=by
     intro h7;refine h5 (so (R:=shR l n) a2 hk ?_);rw[h7,getElem!_of a3];exact jv a0 a4 a3
    by_cases h7:eo (shR l n) l.length k<i
    ·rw[if_pos (m1.2 h7),if_pos (m2.2 ab)]
    ·rw[if_neg (fun h=>h7 (m1.1 h)),if_neg (fun h=>absurd (m2.1 h) ab)]
 rw[b5,e];refine⟨i+1,ab,ab,?_,by exact ae⟩;rw[aK i];exact ai
def uY{L:LH}(n w s:Int)(h0:0≤n)(h1:n≤1099511627776)(h2:0≤w)(h3:w≤1152921504606846976)(h4:0<s)(h5:s≤1152921504606846976)(hq:n*w / s≤1099511627776) :
  Tri ag 307 #[ac n,ac w,ac s] L (fun v L'=>v=.tuple #[ac (n*w / s),ac (n*w % s),.bool true]∧L' = L):=by
 obtain⟨N,rfl⟩:∃N:Nat,n=N:=⟨n.toNat,ab⟩;obtain⟨W,rfl⟩:∃W:Nat,w=W:=⟨w.toNat,ab⟩;obtain⟨S,rfl⟩:∃S:Nat,s=S:=⟨s.toNat,ab⟩;have e1:((N*W / S:Nat):Int)=(N:Int)*W / S:=by rw[←fO];rfl
 have e2:((N*W % S:Nat):Int)=(N:Int)*W % S:=by rw[←fO];rfl
 have h:=wa (L:=L) N W S ab ab ab ab (by rw[←e1] at hq;exact Int.ofNat_le.1 hq);rw[e1,e2] at h;exact h
def sw{L:LH}(n:Int)(h0:0≤n)(h1:n≤1099511627776):Tri ag 306 #[ac n] L (fun v L'=>v=.bool true∧L' = L):=by
 refine Tri.bd ?_;refine Hz ?_;intros;exact KX.d7 an (Ent.refl _) ⟨by rw[aT h1];rfl,rfl⟩
def oS{f:Nat→Int}{n b:Nat}{v:Int}:((List.range n).map f).set b v=(List.range n).map (fun k=>if k=b then v else f k):=by
 apply du
 ·simp
 ·intro k h1 h2;rw[fH];by_cases e:b=k
  ·subst e;simp
  ·rw[if_neg e];simp;intro q;exact absurd q.symm e
def iJ{f g:Nat→Int}{n:Nat}(h:∀k,k<n→f k=g k):(List.range n).map f=(List.range n).map g:=cU (fun k hk=>h k (List.mem_range.1 hk))
def spO(l:LL)(n:Int)(m k:Nat):Int:=shQ l n k+(if eo (shR l n) l.length k<m then 1 else 0)
def spR(l:LL)(n:Int)(m k:Nat):Int:=if eo (shR l n) l.length k<m then -1 else shR l n k
def FT{R:Nat→Int}{n m b:Nat}(hR:∀k,k<n→0≤R k)(hm:m<n)(hb:b<n)(h1:∀j,j<n→(if eo R n j<m then(-1:Int) else R j)≤(if eo R n b<m then -1 else R b))(h2:∀j,j<b→(if eo R n j<m then(-1:Int) else R j)<(if eo R n b<m then -1 else R b)):eo R n b=m:=by
 obtain⟨k,hk,a3,a4⟩:=Hj (R:=R) hm;by_cases e:b=k
 ·rw[e];exact a3
 exfalso;have a1:=h1 k hk;rw[if_neg (by omega:¬eo R n k<m)] at a1;have r0:=hR k hk;have a0:¬eo R n b<m:=fun q=>by rw[if_pos q] at a1;omega
 rw[if_neg a0] at a1;rcases a4 b hb e ab with q|⟨q1,q2⟩
 ·omega
 ·have a2:=h2 k q2;rw[if_neg (by omega:¬eo R n k<m),if_neg a0] at a2;omega
def EE{l:LL}{n:Int}{m b:Nat}(hb:b<l.length)(h:eo (shR l n) l.length b=m):((List.range l.length).map (spO l n m)).set b (spO l n m b+1)=(List.range l.length).map (spO l n (m+1)):=by
 rw[oS];apply iJ;intro k hk;by_cases e:k=b
 ·rw[if_pos e];subst e;unfold spO;rw[if_neg ab,if_pos ab];omega
 ·rw[if_neg e];have:eo (shR l n) l.length k≠m:=fun q=>e (so hk hb (by rw[q,h]));unfold spO;by_cases c:eo (shR l n) l.length k<m
  ·rw[if_pos c,if_pos ab]
  ·rw[if_neg c,if_neg ab]
def ED{l:LL}{n:Int}{m b:Nat}(hb:b<l.length)(h:eo (shR l n) l.length b=m):((List.range l.length).map (spR l n m)).set b (-1)=(List.range l.length).map (spR l n (m+1)):=by
 rw[oS];apply iJ;intro k hk;by_cases e:k=b
 ·rw[if_pos e];subst e;unfold spR;rw[if_pos ab]
 ·rw[if_neg e];have:eo (shR l n) l.length k≠m:=fun q=>e (so hk hb (by rw[q,h]));unfold spR;by_cases c:eo (shR l n) l.length k<m
  ·rw[if_pos c,if_pos ab]
  ·rw[if_neg c,if_neg ab]
def tw{l:LL}(hl:∀x∈l,LotOk x)(a0:l.length≤4096):lsum l≤4096*1099511627776:=by
 have h:=(gD hl l.length (aB _)).2;rw[gS] at h;have h2:(l.length:Int)*1099511627776≤4096*1099511627776:=bW ab ah;omega
abbrev yd:List Stp:=[.ev 0,.ev 1,.ev 2,.ev 3,.ev 4,.ev 5,.ev 6,.ev 7,.ev 8]
def Mm{φ ψ:Prop}(k:ψ)(h:Hid ψ→φ:=by intro k;(repeat (first|refine aa ?_|intro zzz|((with_reducible apply G.d8);first|refine G.d7 (N:=113) (id:=26) yd mixed aw ?_)));(repeat revert zzz);exact Hid.out k):φ:=h ⟨k⟩
def xQ{L:LH}(ad:OA)(c:Nat)(l:LL)(n:Int)[hrd:Rds L ad Int (encZ .i64) 1 (wts l)](c6:l.length≤4096)(hl:∀x∈l,LotOk x)(b1:l≠[])(h0:0≤n)(h1:n≤lsum l)(h2:n≤1099511627776) :
  Tri ag 290 #[ac n,.slice ad l.length c] L (fun v L'=>∃b3 a7,v=.tuple #[.slice b3 l.length a7,ac 0]∧L' = osl (encZ .i64) 1 tInt b3 a7 ((List.range l.length).map (shC l n))::L):=by
 have f4:=sW l;have a8:0<l.length:=List.length_pos_iff.2 b1;have d1:=jI hl a8;have f8:=tw hl c6;refine Tri.bd ?_;refine Mm ?_;intros;refine G.loop (α:=Nat) (fun i=>i≤l.length) (fun i=>[(0,ac n),(1,.slice ad l.length c),(6,ac (lsum (l.take i))),(7,ac (i:Int))]) (fun _=>L) (fun i=>l.length - i) 0 (aj _) ai (Ent.refl _) ?_;intro i hi;have f3:=gD hl i hi;have e6:(i:Int)*1099511627776≤4096*1099511627776:=bW ab ah;by_cases a0:i<l.length
 case pos =>
  have a6:(i:Int).toNat=i:=ay i;have hw:(wts l)[(i:Int).toNat]! = l[i]!.2.2:=by rw[a6];exact ny a0
  have b8:=hl _ (aG a0);have f6:=b8.w;obtain⟨o1,o2,o3,o4,o5⟩:=b8;have e3:=dX l a0;refine Mm ?_;intros;rw[hw];refine GO.ca (sw l[i]!.2.2 ab ab) ?_;rintro _ L ⟨rfl,rfl⟩;refine Mm ?_;intros;rw[hw];refine Mm ?_;intros;refine⟨i+1,ab,ab,?_,Ent.refl _⟩;rw[aK i,e3];exact ai
 obtain rfl:i=l.length:=ab;rw[gS];refine Mm ?_;intros;refine GO.ca (sw n h0 h2) ?_;rintro _ L ⟨rfl,rfl⟩;refine Mm ?_;intros;refine G.loop (α:=Nat×(OA×Nat)×OA×Nat) (fun z=>z.1≤l.length) (fun z=>[(0,ac n),(1,.slice ad l.length c),(6,ac (lsum l)),(10,.slice z.2.1.1 z.1 z.2.1.2),(11,.slice z.2.2.1 z.1 z.2.2.2),(12,ac (n - cS z.1 (shQ l n))),(13,ac (z.1:Int))]) (fun z=>osl (encZ .i64) 1 tInt z.2.1.1 z.2.1.2 ((List.range z.1).map (shQ l n))::osl (encZ .i64) 1 tInt z.2.2.1 z.2.2.2 ((List.range z.1).map (shR l n))::L) (fun z=>l.length - z.1) (0,(none,0),none,0) (aj _) ?_ ((Ent.d9 (encZ .i64) 1 tInt).trans (Ent.d9 (encZ .i64) 1 tInt)) ?_
 ·rw[jM,fu];exact ai
 rintro⟨i,⟨a1,c1⟩,a2,c2⟩ hi;dsimp only at hi ⊢;have d0:((List.range i).map (shQ l n)).length=i:=by simp
 have c9:((List.range i).map (shR l n)).length=i:=by simp
 have f0:0≤cS i (shQ l n)∧cS i (shQ l n)≤n:=by
  have h3:cS l.length (shQ l n)≤n:=by
   have:=(lB (n:=n) hl b1).1
   rw[kz] at this;omega
  have h4:∀j,j≤l.length→0≤cS j (shQ l n):=by
   intro j;induction j with
   | zero=>intro _;exact bj _
   | succ j ih =>
    intro hj;rw[dW];have:=ih ab
    have:=(jt hl h0 h1 (show j<l.length by omega)).1
    omega
  have h5:∀d,i+d≤l.length→cS i (shQ l n)≤cS (i+d) (shQ l n):=by
   intro d;induction d with
   | zero=>intro _;exact bj _
   | succ d ih =>
    intro hd;have:=ih ab
    rw[show i+(d+1)=(i+d)+1 by omega,dW];have:=(jt hl h0 h1 (show i+d<l.length by omega)).1
    omega
  have h6:=h5 (l.length - i) ab;rw[show i+(l.length - i)=l.length by omega] at h6;exact⟨h4 i hi,ab⟩
 by_cases a0:i<l.length
 case pos =>
  have a6:(i:Int).toNat=i:=ay i;have hw:(wts l)[(i:Int).toNat]! = l[i]!.2.2:=by rw[a6];exact ny a0
  obtain⟨o1,o2,o3,o4,o5⟩:=hl _ (aG a0);have f5:=jt hl h0 h1 a0;have eq:shQ l n i=n*l[i]!.2.2 / lsum l:=rfl;have er:shR l n i=n*l[i]!.2.2 % lsum l:=rfl;refine Mm ?_;intros;rw[hw];refine GO.cr (uY n l[i]!.2.2 (lsum l) h0 h2 ab ab d1 ab (by rw[←eq];omega)) ?_;rw[←eq,←er];refine Mm ?_;intros;refine GO.ef (Ef.d7 (enc:=encZ .i64) (shQ l n i) rfl rfl rfl d0.symm rfl (by rfl) (mI _ _) ab ab) ah ?_;rintro _ _⟨a3,c3,rfl,rfl⟩;refine Mm ?_;intros;refine GO.ef (Ef.d7 (enc:=encZ .i64) (shR l n i) rfl rfl rfl c9.symm rfl (by rfl) (mI _ _) ab ab) ah ?_;rintro _ _⟨a4,c4,rfl,rfl⟩;refine Mm ?_;intros;have e1:(List.range i).map (shQ l n)++[shQ l n i]=(List.range (i+1)).map (shQ l n):=by rw[ew,aZ];rfl
  have e2:(List.range i).map (shR l n)++[shR l n i]=(List.range (i+1)).map (shR l n):=by rw[ew,aZ];rfl
  rw[e1,e2];refine⟨(i+1,(a3,c3),a4,c4),by dsimp only;omega,by dsimp only;omega,?_,by exact ae⟩;dsimp only;rw[aK i,dW,show((List.range (i+1)).map (shQ l n)).length=i+1 by simp,show((List.range (i+1)).map (shR l n)).length=i+1 by simp,show n - (cS i (shQ l n)+shQ l n i)=n - cS i (shQ l n) - shQ l n i by omega];exact ai
 obtain rfl:i=l.length:=ab;have d6:n - cS l.length (shQ l n)=fx l n:=(kz l n).symm;rw[d6];obtain⟨f2,f1⟩:=lB (n:=n) hl b1;have c8:(List.range l.length).map (shQ l n)=(List.range l.length).map (spO l n 0):=iJ (fun k _=>by unfold spO;rw[if_neg ab];omega);have c0:(List.range l.length).map (shR l n)=(List.range l.length).map (spR l n 0):=iJ (fun k _=>by unfold spR;rw[if_neg ab]);rw[c8,c0];refine Mm ?_;intros;refine G.loop (α:=Nat) (fun m=>(m:Int)≤fx l n) (fun m=>[(0,ac n),(1,.slice ad l.length c),(6,ac (lsum l)),(10,.slice a1 l.length c1),(11,.slice a2 l.length c2),(12,ac (fx l n - (m:Int)))]) (fun m=>osl (encZ .i64) 1 tInt a1 c1 ((List.range l.length).map (spO l n m))::osl (encZ .i64) 1 tInt a2 c2 ((List.range l.length).map (spR l n m))::L) (fun m=>(fx l n).toNat - m) 0 ab ?_ (Ent.refl _) ?_
 ·rw[show((0:Nat):Int)=0 from rfl,fu];exact ai
 intro m hm;have b4:∀f:Nat→Int,((List.range l.length).map f).length=l.length:=fun f=>by simp
 by_cases c5:(m:Int)=fx l n
 ·have hO:(List.range l.length).map (spO l n m)=(List.range l.length).map (shC l n):=iJ (fun k _=>by
   unfold spO shC;rw[oe,←c5];by_cases q:eo (shR l n) l.length k<m
   ·rw[if_pos q,if_pos ab]
   ·rw[if_neg q,if_neg ab])
  rw[hO];refine Mm ?_;intros;exact KX.en ⟨a1,c1,rfl,rfl⟩
 have d3:m<l.length:=ab;have e0:=b4 (spO l n m);have d5:=b4 (spR l n m);have b5:∀k,k<l.length→((List.range l.length).map (spO l n m))[k]! = spO l n m k:=fun k hk=>gL hk;have a9:∀k,k<l.length→((List.range l.length).map (spR l n m))[k]! = spR l n m k:=fun k hk=>gL hk;have b7:=fun b (hb:b<l.length) h=>EE (n:=n) (m:=m) hb h;have b6:=fun b (hb:b<l.length) h=>ED (n:=n) (m:=m) hb h;obtain⟨xs,e4⟩:∃xs,xs=(List.range l.length).map (spO l n m):=⟨_,rfl⟩;obtain⟨ys,d2⟩:∃ys,ys=(List.range l.length).map (spR l n m):=⟨_,rfl⟩;rw[←e4] at e0 b5 b7 ⊢;rw[←d2] at d5 a9 b6 ⊢;refine Mm ?_;intros;refine G.loop (α:=Nat×Nat) (fun z=>z.1≤l.length∧z.2<z.1∧(∀j,j<z.1→ys[j]!≤ys[z.2]!)∧∀j,j<z.2→ys[j]! < ys[z.2]!) (fun z=>[(0,ac n),(1,.slice ad l.length c),(6,ac (lsum l)),(10,.slice a1 l.length c1),(11,.slice a2 l.length c2),(12,ac (fx l n - (m:Int))),(17,ac (z.2:Int)),(18,ac (z.1:Int))]) (fun _=>osl (encZ .i64) 1 tInt a1 c1 xs::osl (encZ .i64) 1 tInt a2 c2 ys::L) (fun z=>l.length - z.1) (1,0) ⟨a8,Nat.zero_lt_one,fun j hj=>(show j=0 by omega)▸bj _,fun j hj=>absurd hj (bJ j)⟩ ai (Ent.refl _) ?_;rintro⟨i,b⟩ ⟨i1,i2,i3,i4⟩;dsimp only at i1 i2 i3 i4 ⊢;have b0:(b:Int).toNat=b:=ay b;by_cases a0:i<l.length
 case pos =>
  have a6:(i:Int).toNat=i:=ay i;by_cases hc:ys[(b:Int).toNat]! < ys[(i:Int).toNat]!
  ·refine Mm ?_;intros;rw[b0,a6] at hc;refine⟨(i+1,i),⟨by dsimp only;omega,by dsimp only;omega,?_,?_⟩,by dsimp only;omega,?_,by exact ae⟩
   ·dsimp only;intro j hj;by_cases e:j=i
    ·subst e;exact bj _
    ·have:=i3 j ab;omega
   ·dsimp only;intro j hj;have:=i3 j hj
    omega
   ·dsimp only;rw[aK i];exact ai
  ·refine Mm ?_;intros;rw[b0,a6] at hc;refine⟨(i+1,b),⟨by dsimp only;omega,by dsimp only;omega,?_,i4⟩,by dsimp only;omega,?_,by exact ae⟩
   ·dsimp only;intro j hj;by_cases e:j=i
    ·subst e;omega
    ·exact i3 j ab
   ·dsimp only;rw[aK i];exact ai
 obtain rfl:i=l.length:=ab
 have a5:eo (shR l n) l.length b=m:=by
  refine FT (fun k hk=>dD _ ab) d3 i2 ?_ ?_
  ·intro j hj;have:=i3 j hj
   rw[a9 j hj,a9 b i2] at this;exact this
  ·intro j hj;have:=i4 j hj
   rw[a9 j ab,a9 b i2] at this;exact this
 have b9:=b7 b i2 a5;have d4:=b6 b i2 a5
 have c7:0≤spO l n m b∧spO l n m b≤1099511627776*2:=by
  have q1:=jt hl h0 h1 i2;obtain⟨o1,o2,o3,o4,o5⟩:=hl _ (aG i2);unfold spO;split<;>omega
 rw[←b5 b i2,←b0] at b9 c7;have b2 : ys.set (b:Int).toNat (-1)=(List.range l.length).map (spR l n (m+1)):=by rw[b0];exact d4
 have e5:(b:Int).toNat<xs.length:=ab;refine Mm ?_;intros;rw[b9,b2];refine⟨m+1,ab,ab,?_,by exact ae⟩;rw[aK m,show fx l n - ((m:Int)+1)=fx l n - (m:Int) - 1 by omega];exact ai
