/- Lemmas. -/
import Derived.Test.YtommnllbflbdmaaGreatDoorLbd
set_option linter.all false
set_option maxHeartbeats 2000000
namespace Go.Proofs.YtommnllbflbdmaaGreatDoor
section
open Go.V
attribute [local irreducible] G GO GP GPW GPK Ev Ef EfR Ent CB GB V.Enters
def ovP(x y:Lot):Prop:=x.2.1<y.2.1+y.2.2∧y.2.1<x.2.1+x.2.2
instance (x y:Lot):Decidable (ovP x y):=by unfold ovP;infer_instance
abbrev yR:List Stp:=[.ev 0,.ev 1,.ev 2,.ef 3,.ev 4,.ev 5,.ev 6,.ev 7,.ev 8,.ef 9,.ev 10,.ev 11,.ev 12]
theorem iM{φ ψ:Prop}(k:ψ)(h:Hid ψ→φ:=by intro k;(with_reducible apply G.d8);first|refine G.d7 (N:=16) (id:=1) yR mixed ap (Hid.out k)):φ:=h ⟨k⟩
theorem sR{L:LH}(b:Nat)(x y:Lot)(hx:LotW x)(hy:LotW y):Tri ah 231 #[.agg (an y).toArray,au b] (obj b tLot (an x)::L) (fun v L'=>v=.bool (dB (ovP x y))∧L' = obj b tLot (an x)::L):=by
 refine Tri.body (args:=[.agg (an y).toArray,au b]) 16 If Tryz.func231 rfl rfl rfl (by simp) ?_;repeat first|refine aa ?_|intro _|refine iM ?_
 refine GPW.ef (Ef.d7 (iG y hy) rfl) ae ?_;rintro _ _⟨rfl,rfl⟩;by_cases h1:x.2.1<y.2.1+y.2.2
 ·repeat first|refine aa ?_|intro _|refine iM ?_
  refine GPW.ef (Ef.d7 (iG x hx) rfl) ae ?_;rintro _ _⟨rfl,rfl⟩;repeat first|refine aa ?_|intro _|refine iM ?_
  refine KX.d7 ai ?_ ⟨?_,rfl⟩
  ·exact ag
  ·by_cases h2:y.2.1<x.2.1+x.2.2
   ·rw[aU h2,aU (show ovP x y from⟨h1,h2⟩)];rfl
   ·rw[aF h2,aF (show ¬ovP x y from fun q=>h2 q.2)];rfl
 ·repeat first|refine aa ?_|intro _|refine iM ?_
  rw[aF (show ¬ovP x y from fun q=>h1 q.1)];refine KX.d7 ai ?_ ⟨rfl,rfl⟩;exact ag
theorem uH{C L:LH}(g:FuncId)(cap:LV)(p:Lot→Prop)[DecidablePred p](ad:OA)(n c:Nat)(xs:LL)[hr:Rds (C++L) ad Lot an 3 xs](hn:n=xs.length)(hl:xs.length≤1000000)(hg:∀y∈xs,Tri ah g (([]++[Value.agg (an y).toArray]++cap:LV)).toArray (C++L) (fun v L'=>v=.bool (dB (p y))∧L' = C++L)) :
  Tri ah 272 #[.slice ad n c,.func (.func g) #[] cap.toArray] (C++L) (fun v L'=>∃i:Int,v=ab i∧((i = -1∧∀k,k<xs.length→¬p xs[k]!)∨∃k:Nat,i=k∧k<xs.length∧p xs[k]!∧∀j,j<k→¬p xs[j]!)∧L' = C++L):=by
 subst hn;refine Tri.body (args:=[.slice ad xs.length c,.func (.func g) #[] cap.toArray]) 19 HA Tryz.func272 rfl rfl rfl (by simp) ?_;repeat first|refine aa ?_|intro
 refine G.loop (α:=Nat) (fun i=>i≤xs.length∧∀j,j<i→¬p xs[j]!) (fun i=>[(0,.slice ad xs.length c),(1,.func (.func g) #[] cap.toArray),(7,ab (xs.length:Int)),(8,ab (i:Int))]) (fun _=>C++L) (fun i=>xs.length - i) 0 ⟨ao _,fun j hj=>by omega⟩ aj (Ent.refl _) ?_;rintro i ⟨hi,hb⟩;by_cases hlt:i<xs.length
 case neg =>
  obtain rfl:i=xs.length:=ac;repeat first|refine aa ?_|intro
  exact KX.d7 ai (Ent.refl _) ⟨-1,rfl,.inl ⟨rfl,hb⟩,rfl⟩
 have hii:(i:Int).toNat=i:=ac;repeat first|refine aa ?_|intro
 rw[hii];refine GO.ef (Ef.d9 rfl rfl (hg xs[i]! (aI hlt))) ae ?_;rintro _ _⟨rfl,rfl⟩;by_cases hp:p xs[i]!
 ·rw[aU hp];repeat first|refine aa ?_|intro
  exact KX.d7 ai (Ent.refl _) ⟨i,rfl,.inr ⟨i,rfl,hlt,hp,hb⟩,rfl⟩
 ·rw[aF hp];repeat first|refine aa ?_|intro
  refine⟨i+1,⟨ac,?_⟩,ac,?_,Ent.refl _⟩
  ·intro j hj;rcases cg j i with h|h
   ·exact hb j h
   ·obtain rfl:j=i:=ac;exact hp
  ·rw[aP i];exact aj
theorem re{C L:LH}(g:FuncId)(cap:LV)(p:Lot→Prop)[DecidablePred p](ad:OA)(n c:Nat)(xs:LL)[hr:Rds (C++L) ad Lot an 3 xs](hn:n=xs.length)(hl:xs.length≤1000000)(hg:∀y∈xs,Tri ah g (([]++[Value.agg (an y).toArray]++cap:LV)).toArray (C++L) (fun v L'=>v=.bool (dB (p y))∧L' = C++L)) :
  Tri ah 230 #[.slice ad n c,.func (.func g) #[] cap.toArray] (C++L) (fun v L'=>v=.bool (dB (∃y∈xs,p y))∧L' = C++L):=by
 refine Tri.body (args:=[.slice ad n c,.func (.func g) #[] cap.toArray]) 9 Ig Tryz.func230 rfl rfl rfl (by simp) ?_;repeat first|refine aa ?_|intro
 refine GO.ef (Ef.d7 (uH g cap p ad n c xs hn hl hg) rfl) ae ?_;rintro _ _⟨i,rfl,hi,rfl⟩;rcases hi with⟨rfl,hno⟩|⟨k,rfl,hk,hp,_⟩
 ·rw[aF (show ¬ ∃y∈xs,p y from fun⟨y,hy,hp⟩=>by
   obtain⟨k,hk,rfl⟩:=List.mem_iff_getElem.1 hy;have:=hno k hk
   rw[getElem!_of hk] at this;exact this hp)]
  repeat first|refine aa ?_|intro
  exact KX.d7 ai (Ent.refl _) ⟨by rw[aF ac];rfl,rfl⟩
 ·rw[aU (show ∃y∈xs,p y from⟨_,aI hk,hp⟩)];repeat first|refine aa ?_|intro
  exact KX.d7 ai (Ent.refl _) ⟨by rw[aU ac];rfl,rfl⟩
theorem oq{L:LH}(ad:OA)(n c:Nat)(xs:LL)(x:Lot)[hr:Rds L ad Lot an 3 xs](hn:n=xs.length)(hl:xs.length≤1000000)(hxs:∀y∈xs,LotW y)(hx:LotW x) :
  Tri ah 143 #[.slice ad n c,.agg (an x).toArray] L (fun v L'=>v=.bool (dB (∃y∈xs,ovP x y))∧L' = L):=by
 refine Tri.body (args:=[.slice ad n c,.agg (an x).toArray]) 8 JE Tryz.func143 rfl rfl rfl (by simp) ?_;repeat first|refine aa ?_|intro
 rename_i b;have hr2:Rds ([obj b tLot (an x)]++L) ad Lot an 3 xs:=(inferInstance:Rds (obj b tLot (an x)::L) ad Lot an 3 xs);refine GO.ef (Ef.d7 (re (C:=[obj b tLot (an x)]) 231 [au b] (ovP x) ad n c xs hn hl (fun y hy=>sR b x y hx (hxs y hy))) rfl) ae ?_;rintro _ _⟨rfl,rfl⟩;repeat first|refine aa ?_|intro
 exact KX.d7 ai (show Ent (obj b tLot (an x)::L) L by exact ag) ⟨rfl,rfl⟩
def ltV(x:Lot):LV:=[.agg (an x).toArray]
theorem vi{L0:LH}(bx:Nat)(ad:OA)(c:Nat)(l:LL)[hrd:Rds L0 ad Lot an 3 l](hm:l.length≤1000000) :
  Iter ah 292 [au bx] (l.map ltV) (obj bx jz [.slice ad l.length c]::L0):=by
 intro i J Jx hy;rw[aG]
 have hy' : ∀k (hk:k<l.length),YTri ah i (ltV l[k]!) [J k] (fun v L'=>(v=.bool true∧L' = [J (k+1)])∨(v=.bool false∧L' = [Jx k])):=by
  intro k hk;have h:=hy k (by rw[aG];exact hk);rw[eU] at h;rw[getElem!_of hk];exact h
 clear hy;refine Tri.body (args:=[.func (.yield i) #[] #[],au bx]) 16 Fc Tryz.func292 rfl rfl rfl (by simp) ?_;repeat first|refine aa ?_|intro
 refine G.loop (α:=Nat) (fun k=>k≤l.length) (fun k=>[(0,.func (.yield i) #[] #[]),(1,au bx),(5,.slice ad l.length c),(6,ab l.length),(7,ab (k:Int))]) (fun k=>J k::obj bx jz [.slice ad l.length c]::L0) (fun k=>l.length - k) 0 (ao _) aj (Ent.refl _) ?_;intro k hk;by_cases hlt:k<l.length
 case neg =>
  have hkn:k=l.length:=ac;repeat first|refine aa ?_|intro
  refine KX.e8 ai (Ent.refl _) (.inl ?_);rw[hkn]
 have hyk:=hy' k hlt;have hii:(k:Int).toNat=k:=aA k;repeat first|refine aa ?_|intro
 rw[hii];refine GO.ent Ent.swap ?_;((with_reducible apply GO.d7);refine GO.efR (EfR.yield (hyk) rfl rfl (by repeat (first|exact Ent.refl _|apply Ent.take))) ae ?_);rintro _ _⟨_,(⟨rfl,rfl⟩|⟨rfl,rfl⟩),hL⟩
 ·simp only[ax,aq] at hL;subst hL;repeat first|refine aa ?_|intro
  refine⟨k+1,ac,ac,?_,?_⟩
  ·rw[show(((k+1:Nat)):Int)=(k:Int)+1 by omega];exact aj
  ·exact Ent.d7 Ent.drop
 ·simp only[ax,aq] at hL;subst hL;repeat first|refine aa ?_|intro
  exact KX.d7 ai (Ent.d7 Ent.drop) (.inr ⟨k,rfl⟩)
theorem sA{L:LH}(bx:Nat)(ad:OA)(c:Nat)(l:LL)[hrd:Rds L ad Lot an 3 l](hm:l.length≤1000000) :
  Tri ah 308 #[.slice none 0 0,.func (.func 292) #[] #[au bx]] (obj bx jz [.slice ad l.length c]::L) (fun v L'=>∃ad' cap',v=.slice ad' l.length cap'∧L' = osl an 3 tLot ad' cap' l::obj bx jz [.slice ad l.length c]::L):=by
 refine Tri.body (args:=[.slice none 0 0,.func (.func 292) #[] #[au bx]]) 13 Hh Tryz.func308 rfl rfl rfl (by simp) ?_;repeat first|refine aa ?_|intro
 rename_i b2;refine G.rangeFunc (vi (L0:=L) bx ad c l hm) rfl Fc ae (by intro vs hvs;obtain⟨r,_,rfl⟩:=List.mem_map.1 hvs;rfl) (fun k=>[stkO b2 (l.take k)]) ?_ ?_ ?_
 ·simp only[ax,aq,ce];refine Ent.trans ?_ (Ent.l5 (none,0) (f:=stkA b2 []) (Ent.refl _));simp only[stkA,cH,ax,aq];refine Ent.trans (Ent.d8 an 3 tLot) ?_;exact ag
 ·intro k hk;rw[aG] at hk;rw[eU];have htk:l.take (k+1)=l.take k++[l[k]]:=aC hk;rw[htk];have htl:(l.take k).length≤1000000:=by rw[aY];omega
  generalize l.take k=T at htl;generalize l[k]=x;show G _ _ _ ((7,.agg (an x).toArray)::_) _ _;refine G.e9 (f:=stkA b2 T) ?_;rintro⟨ad1,c1⟩;simp only[stkA,ax,aq];repeat first|refine aa ?_|intro
  refine GO.ef (Ef.d8 (enc:=an) (e:=x) rfl rfl rfl rfl rfl (by rfl) (cx _) ac ac) ae ?_;rintro _ _⟨ad2,cap2,rfl,rfl⟩;repeat first|refine aa ?_|intro
  refine KX.round ?_;refine Ent.trans ?_ (Ent.l5 (ad2,cap2) (f:=stkA b2 (T++[x])) (Ent.refl _));simp only[stkA,ax,aq];exact ag
 rw[aG,bG];simp only[ax,aq];refine KX.d8 ?_;repeat first|refine aa ?_|intro
 refine GO.j0 (f:=stkA b2 l) ?_;rintro⟨ad2,cap2⟩;simp only[stkA,ax,aq];repeat first|refine aa ?_|intro
 refine KX.d7 ai ?_ ⟨ad2,cap2,rfl,rfl⟩;exact ag
theorem uJ{L:LH}(bx:Nat)(ad:OA)(c:Nat)(l:LL)[hrd:Rds L ad Lot an 3 l](hm:l.length≤1000000) :
  Tri ah 291 #[.func (.func 292) #[] #[au bx]] (obj bx jz [.slice ad l.length c]::L) (fun v L'=>∃ad' cap',v=.slice ad' l.length cap'∧L' = osl an 3 tLot ad' cap' l::obj bx jz [.slice ad l.length c]::L):=by
 refine Tri.body (args:=[.func (.func 292) #[] #[au bx]]) 5 Hr Tryz.func291 rfl rfl rfl (by simp) ?_;repeat first|refine aa ?_|intro
 refine GO.ef (Ef.d7 (sA bx ad c l hm) rfl) ae ?_;rintro _ _⟨ad1,c1,rfl,rfl⟩;repeat first|refine aa ?_|intro
 exact KX.d7 ai (Ent.refl _) ⟨ad1,c1,rfl,rfl⟩
abbrev yQ:List Stp:=[.ev 0,.ev 1,.ev 2,.ev 3,.ev 5,.ev 6,.ev 7,.ev 8,.ef 4,.ef 9,.ef 10,.ef 11,.ev 12]
theorem iL{φ ψ:Prop}(k:ψ)(h:Hid ψ→φ:=by intro k;(with_reducible apply G.d8);first|refine G.d7 (N:=17) (id:=1) yQ mixed ap (Hid.out k)):φ:=h ⟨k⟩
theorem wW{L:LH}(x y:Lot):Tri ah 275 #[.agg (an x).toArray,.agg (an y).toArray] L (fun v L'=>v=ab (hdC x y)∧L' = L):=by
 refine Tri.body (args:=[.agg (an x).toArray,.agg (an y).toArray]) 17 Fe Tryz.func275 rfl rfl rfl (by simp) ?_;repeat first|refine aa ?_|intro _|refine iL ?_
 refine GPW.ef (Ef.d7 (jP x.1 y.1) rfl) ae ?_;rintro _ _⟨rfl,rfl⟩;repeat first|refine aa ?_|intro _|refine iL ?_
 refine GPW.ef (Ef.d7 (jP x.2.1 y.2.1) rfl) ae ?_;rintro _ _⟨rfl,rfl⟩;repeat first|refine aa ?_|intro _|refine iL ?_
 rename_i bc;refine GPW.ent (Ent.e8 (enc:=encZ .i64) (sz:=1) (xs:=[cmpI x.1 y.1,cmpI x.2.1 y.2.1]) rfl rfl (fun _ _=>rfl) (by simp)) ?_;refine GPW.ef (Ef.d7 (nL (some ⟨bc,0,none⟩) 2 (cmpI x.1 y.1) (cmpI x.2.1 y.2.1)) rfl) ae ?_;rintro _ _⟨rfl,rfl⟩;repeat first|refine aa ?_|intro _|refine iL ?_
 exact KX.d7 ai ag ⟨rfl,rfl⟩
theorem vr{E cap:Nat}{ad:OA}{xs:LL}(hsz:xs.length<4611686018427387904) :
  Tri ah 282 #[.slice ad xs.length cap,.func (.func 275) #[] #[]] [osl an 3 E ad cap xs] (fun v L'=>v=.tuple #[]∧∃ys,gh hdC xs ys∧L' = [osl an 3 E ad cap ys]) :=
 Tri.d7 (ρ:=Tryz.sortL_ren) Tryz.sortL (k:=3) Tryz.isAgg91 Tryz.sizeOf91 (fun _=>rfl) cx (Lc:=[]) hdC zF Hu Fe (fun _ _ _=>trivial) (fun x y=>(wW (L:=[]) x y).mono (fun _ _ h=>h.1)) hsz
theorem sL{L:LH}(bx:Nat)(ad:OA)(c:Nat)(l:LL)[hrd:Rds L ad Lot an 3 l](hm:l.length≤1000000) :
  Tri ah 273 #[.func (.func 292) #[] #[au bx],.func (.func 275) #[] #[]] (obj bx jz [.slice ad l.length c]::L) (fun v L'=>∃ad' cap' ys,v=.slice ad' ys.length cap'∧gh hdC l ys∧L' = osl an 3 tLot ad' cap' ys::obj bx jz [.slice ad l.length c]::L):=by
 refine Tri.body (args:=[.func (.func 292) #[] #[au bx],.func (.func 275) #[] #[]]) 12 Hz Tryz.func273 rfl rfl rfl (by simp) ?_;repeat first|refine aa ?_|intro
 refine GO.ef (Ef.d7 (uJ bx ad c l hm) rfl) ae ?_;rintro _ _⟨ad1,c1,rfl,rfl⟩;repeat first|refine aa ?_|intro _
 (first|refine GO.ef (Ef.call (vr (E:=tLot) (ad:=ad1) (cap:=c1) (xs:=l) ac) rfl (by repeat (first|exact Ent.refl _|apply Ent.take))) ae ?_);rintro _ _⟨_,⟨rfl,ys,hys,rfl⟩,hL⟩;simp only[ax,aq] at hL;subst hL;have hyl:=hys.1.length_eq;repeat first|refine aa ?_|intro
 exact KX.d7 ai (Ent.refl _) ⟨ad1,c1,ys,by rw[hyl];rfl,hys,rfl⟩
theorem vh{L:LH}(ad:OA)(n c:Nat) :
  Tri ah 274 #[.slice ad n c] L (fun v L'=>∃bx,v=.func (.func 292) #[] #[au bx]∧L' = obj bx jz [.slice ad n c]::L):=by
 refine Tri.body (args:=[.slice ad n c]) 4 Hy Tryz.func274 rfl rfl rfl (by simp) ?_;repeat first|refine aa ?_|intro
 rename_i bx;exact KX.d7 ai (Ent.refl _) ⟨bx,rfl,rfl⟩
theorem qz{L:LH}(ad:OA)(n c:Nat)(l:LL)[hrd:Rds L ad Lot an 3 l](hn:n=l.length)(hm:l.length≤1000000) :
  Tri ah 239 #[.slice ad n c] L (fun v L'=>∃ad' cap' ys,v=.slice ad' ys.length cap'∧gh hdC l ys∧L' = osl an 3 tLot ad' cap' ys::L):=by
 subst hn;refine Tri.body (args:=[.slice ad l.length c]) 6 HY Tryz.func239 rfl rfl rfl (by simp) ?_;repeat first|refine aa ?_|intro
 refine GO.ef (Ef.d7 (vh ad l.length c) rfl) ae ?_;rintro _ _⟨bx,rfl,rfl⟩;repeat first|refine aa ?_|intro
 refine GO.ef (Ef.d7 (sL bx ad c l hm) rfl) ae ?_;rintro _ _⟨ad1,c1,ys,rfl,hys,rfl⟩;repeat first|refine aa ?_|intro
 refine KX.d7 ai ?_ ⟨ad1,c1,ys,rfl,hys,rfl⟩;exact ag
instance (l:LL):Decidable (Apart l):=by unfold Apart apart;infer_instance
def gj(l:LL)(n:Int):Prop:=eZ l∧Apart l∧lsum l=n
instance (l:LL)(n:Int):Decidable (gj l n):=by unfold gj;infer_instance
theorem partsA_iff{l:LL}{n:Int}:gj l n↔nk l n:=by
 constructor
 ·rintro⟨h1,h2,h3⟩;exact⟨h1,h3,((lY h1.1).2 h2).trans h3⟩
 ·rintro⟨h1,h2,h3⟩;exact⟨h1,(lY h1.1).1 (h3.trans h2.symm),h2⟩
theorem BX{x y:Lot}(h:apart x y):apart y x:=by unfold apart at *;omega
theorem Apart.perm{l m:LL}(h:Apart l)(p:m.Perm l):Apart m:=(p.pairwise_iff (fun {a b} q=>BX q)).2 h
def nbr(ys:LL)(k:Nat):Prop:=∀i,i+1<k→¬(ys[i+1]!.1=ys[i]!.1∧ys[i+1]!.2.1<ys[i]!.2.1+ys[i]!.2.2)
theorem sK{ys:LL}(hs:ys.Pairwise (fun a b=>¬hdC b a<0)){i j:Nat}(h:i<j)(hj:j<ys.length):ys[i]!.1<ys[j]!.1∨(ys[i]!.1=ys[j]!.1∧ys[i]!.2.1≤ys[j]!.2.1):=by
 have:=(List.pairwise_iff_getElem.1 hs) i j ac hj h
 rw[nm] at this;unfold klt at this;rw[getElem!_of hj,getElem!_of ac];omega
theorem tQ{ys:LL}(hs:ys.Pairwise (fun a b=>¬hdC b a<0))(hl:∀x∈ys,LotOk x)(hn:nbr ys ys.length){a:Nat}:∀b,a<b→b<ys.length→ys[a]!.1=ys[b]!.1→ys[a]!.2.1+ys[a]!.2.2≤ys[b]!.2.1
 | 0,h,_,_=>absurd h (cd a)
 | b+1,h,hb,e=>by
  have h1:=hn b hb;rcases cg a b with q|q
  ·have g1:=sK hs q ac;have g2:=sK hs (show b<b+1 by omega) hb;have e2:ys[a]!.1=ys[b]!.1:=ac;have ih:=tQ hs hl hn b q ac e2;have hok:=hl _ (aI (show b<ys.length by omega));unfold LotOk at hok;omega
  ·obtain rfl:a=b:=ac;omega
theorem CQ{l ys:LL}(h:gh hdC l ys)(hl:∀x∈l,LotOk x):nbr ys ys.length↔Apart l:=by
 have hy:∀x∈ys,LotOk x:=fun x hx=>hl x (h.1.mem_iff.1 hx);constructor
 ·intro hn;refine Apart.perm (m:=l) ?_ h.1.symm;refine List.pairwise_iff_getElem.2 (fun i j hi hj hij=>?_);have g:=tQ h.2 hy hn j hij hj;rw[getElem!_of hi,getElem!_of hj] at g;unfold apart;by_cases e:ys[i].1=ys[j].1
  ·exact .inr (.inl (g e))
  ·exact .inl e
 ·intro ha i hi;have hp:=(List.pairwise_iff_getElem.1 (Apart.perm ha h.1)) i (i+1) ac hi ac;rw[←getElem!_of hi,←getElem!_of ac] at hp;have g:=sK h.2 (show i<i+1 by omega) hi;have h1:=hy _ (aI (show i<ys.length by omega));have h2:=hy _ (aI hi);unfold apart at hp;unfold LotOk at h1 h2;omega
abbrev vY:List Stp:=[.ev 0,.ev 1,.ev 2,.ev 3,.ev 4,.ev 5,.ev 6,.ev 7,.ev 8,.ev 9,.ev 10,.ev 11,.ev 12,.ev 13,.ev 14,.ev 15,.ev 16,.ev 17,.ev 18,.ev 19,.ev 20,.ev 21,.ev 22,.ef 23,.ev 24,.ev 25]
theorem dl{φ ψ:Prop}(k:ψ)(h:Hid ψ→φ:=by intro k;(with_reducible apply G.d8);first|refine G.d7 (N:=87) (id:=15) vY mixed ap (Hid.out k)):φ:=h ⟨k⟩
theorem jZ{L:LH}(ad:OA)(n c:Nat)(xs:LL)(m:Int)[hr:Rds L ad Lot an 3 xs](hn:n=xs.length)(hm:n≤9223372036854775807) :
  Tri ah 234 #[.slice ad n c,ab m] L (fun v L'=>v=.bool (dB (gj xs m))∧L' = L):=by
 subst hn;refine Tri.body (args:=[.slice ad xs.length c,ab m]) 87 Id Tryz.func234 rfl rfl rfl (by simp) ?_;by_cases h0:xs.length≤4096
 case neg =>
  repeat first|refine aa ?_|intro _|refine dl ?_
  exact KX.d7 ai (Ent.refl _) ⟨by rw[aF (show ¬gj xs m from fun q=>h0 q.1.2)];rfl,rfl⟩
 repeat first|refine aa ?_|intro _|refine dl ?_
 refine G.loop (α:=Nat) (fun i=>i≤xs.length∧(∀k,k<i→LotOk xs[k]!)∧0≤lsum (xs.take i)∧lsum (xs.take i)≤(i:Int)*1099511627776) (fun i=>[(0,.slice ad xs.length c),(1,ab m),(5,ab (lsum (xs.take i))),(13,.slice ad xs.length c),(14,ab xs.length),(15,ab (i:Int))]) (fun _=>L) (fun i=>xs.length - i) 0 ⟨ao _,fun k hk=>absurd hk (cd k),bu _,bu _⟩ aj (Ent.refl _) ?_;rintro i ⟨hi,hok,hb1,hb2⟩;by_cases hlt:i<xs.length
 case pos =>
  have hii:(i:Int).toNat=i:=ac;have hs:=dV xs hlt;by_cases hp:LotOk xs[(i:Int).toNat]!
  ·have hp2:=hp;unfold LotOk at hp2
   have hp3:1≤xs[i]!.2.2∧xs[i]!.2.2≤1099511627776:=by
    rw[hii] at hp2;omega
   have hm2:(i:Int)*1099511627776≤4096*1099511627776:=bX ac ae
   have hm3:((i+1:Nat):Int)*1099511627776=(i:Int)*1099511627776+1099511627776:=by
    rw[Int.natCast_add,Int.add_mul];rfl
   repeat first|refine aa ?_|intro _|refine dl ?_
   refine⟨i+1,⟨ac,fun k hk=>?_,by rw[hs];omega,by rw[hs,hm3];omega⟩,ac,?_,by exact ag⟩
   ·by_cases e:k=i
    ·rw[e,←hii];exact hp
    ·exact hok k ac
   ·rw[aP i,hs,show xs[i]! = xs[(i:Int).toNat]! by rw[hii]];exact aj
  ·have hno:dB (gj xs m)=false:=aF (fun q=>hp (by rw[hii];exact q.1.1 _ (aI hlt)));rw[hno];unfold LotOk at hp;by_cases p1:0≤xs[(i:Int).toNat]!.1
   case neg =>
    repeat first|refine aa ?_|intro _|refine dl ?_
    exact KX.d7 ai ag ⟨rfl,rfl⟩
   by_cases p2:0≤xs[(i:Int).toNat]!.2.1
   case neg =>
    repeat first|refine aa ?_|intro _|refine dl ?_
    exact KX.d7 ai ag ⟨rfl,rfl⟩
   by_cases p3:xs[(i:Int).toNat]!.2.1≤1099511627776
   case neg =>
    repeat first|refine aa ?_|intro _|refine dl ?_
    exact KX.d7 ai ag ⟨rfl,rfl⟩
   by_cases p4:1≤xs[(i:Int).toNat]!.2.2
   case neg =>
    repeat first|refine aa ?_|intro _|refine dl ?_
    exact KX.d7 ai ag ⟨rfl,rfl⟩
   repeat first|refine aa ?_|intro _|refine dl ?_
   exact KX.d7 ai ag ⟨rfl,rfl⟩
 have hall:∀x∈xs,LotOk x:=fun x hx=>by
  obtain⟨k,hk,e⟩:=List.mem_iff_getElem.1 hx;have h2:=hok k ac;rw[getElem!_of hk,e] at h2;exact h2
 obtain rfl:i=xs.length:=ac;rw[bG];repeat first|refine aa ?_|intro _|refine dl ?_
 refine GO.ef (Ef.d7 (qz ad xs.length c xs rfl ac) rfl) ae ?_;rintro _ _⟨ad1,c1,ys,rfl,hys,rfl⟩;have hyl:=hys.1.length_eq;have hyo:∀x∈ys,LotOk x:=fun x hx=>hall x (hys.1.mem_iff.1 hx);have hna:=CQ hys hall;repeat first|refine aa ?_|intro _|refine dl ?_
 refine G.loop (α:=Nat) (fun i=>1≤i∧i≤ys.length+1∧nbr ys i) (fun i=>[(1,ab m),(5,ab (lsum xs)),(8,.slice ad1 ys.length c1),(9,ab (i:Int))]) (fun _=>osl an 3 tLot ad1 c1 ys::L) (fun i=>ys.length+1 - i) 1 ⟨aB _,ac,fun i hi=>by omega⟩ aj (Ent.refl _) ?_;clear hi hok hb1 hb2 hlt;rintro i ⟨h1,hi,hnb⟩;by_cases hlt:i<ys.length
 case neg =>
  have hap:Apart xs:=hna.1 (fun k hk=>hnb k ac);repeat first|refine aa ?_|intro _|refine dl ?_
  refine KX.d7 ai ag ⟨?_,rfl⟩;by_cases he:lsum xs=m
  ·rw[aU he,aU (show gj xs m from⟨⟨hall,h0⟩,hap,he⟩)];rfl
  ·rw[aF he,aF (show ¬gj xs m from fun q=>he q.2.2)];rfl
 have hii:(i:Int).toNat=i:=ac;have hii1:((i:Int) - 1).toNat=i - 1:=ac
 have hw:LotW ys[((i:Int) - 1).toNat]!:=by
  rw[hii1];exact(hyo _ (aI ac)).w
 have hlt' : (i:Int).toNat<ys.length:=ac;have hlt1:((i:Int) - 1).toNat<ys.length:=ac
 have hnx:¬(ys[(i:Int).toNat]!.1=ys[((i:Int) - 1).toNat]!.1∧ys[(i:Int).toNat]!.2.1<ys[((i:Int) - 1).toNat]!.2.1+ys[((i:Int) - 1).toNat]!.2.2)→nbr ys (i+1):=fun q k hk=>by
  by_cases e:k+1<i
  ·exact hnb k e
  ·obtain rfl:k=i - 1:=ac;rw[hii,hii1] at q;rw[show i - 1+1=i by omega];exact q
 by_cases e1:ys[(i:Int).toNat]!.1=ys[((i:Int) - 1).toNat]!.1
 ·repeat first|refine aa ?_|intro _|refine dl ?_
  refine GPW.ef (Ef.d7 (iG ys[((i:Int) - 1).toNat]! hw) rfl) ae ?_;rintro _ _⟨rfl,rfl⟩;by_cases e2:ys[(i:Int).toNat]!.2.1<ys[((i:Int) - 1).toNat]!.2.1+ys[((i:Int) - 1).toNat]!.2.2
  ·have hno:dB (gj xs m)=false:=aF (fun q=>by
    have h3:=hna.2 q.2.1 (i - 1) ac;rw[hii,hii1] at e1 e2;rw[show i - 1+1=i by omega] at h3;exact h3 ⟨e1,e2⟩)
   rw[hno];repeat first|refine aa ?_|intro _|refine dl ?_
   exact KX.d7 ai ag ⟨rfl,rfl⟩
  ·repeat first|refine aa ?_|intro _|refine dl ?_
   refine⟨i+1,⟨ac,ac,hnx (fun q=>e2 q.2)⟩,ac,?_,by exact ag⟩;rw[aP i];exact aj
 ·repeat first|refine aa ?_|intro _|refine dl ?_
  refine⟨i+1,⟨ac,ac,hnx (fun q=>e1 q.1)⟩,ac,?_,by exact ag⟩;rw[aP i];exact aj
end
section
open Go.V
theorem Gh{a b:LL}(p:a.Perm b)(t:Lot):OV a t=OV b t:=by
 induction p with
 | nil=>rfl
 | cons x p ih=>show ov x t+OV _ t=ov x t+OV _ t;rw[ih]
 | swap x y l=>show ov y t+(ov x t+OV l t)=ov x t+(ov y t+OV l t);omega
 | trans p1 p2 ih1 ih2=>exact ih1.trans ih2
theorem CV{a b:LL}(p:a.Perm b):lsum a=lsum b:=by
 induction p with
 | nil=>rfl
 | cons x p ih=>rw[gF,gF,ih]
 | swap x y l=>rw[gF,gF,gF,gF];omega
 | trans p1 p2 ih1 ih2=>exact ih1.trans ih2
theorem Gi{a b:LL}(p:a.Perm b)(s:LL):OO a s=OO b s:=vb (fun t _=>Gh p t)
theorem ofF_mem{ys:LL}{f:Int}{p:Lot}:p∈ofF ys f↔p∈ys∧p.1=f:=by
 unfold ofF;rw[List.mem_filter];simp
theorem zy{l ys:LL}(h:gh hdC l ys)(hl:∀x∈l,LotOk x)(ha:Apart l)(f:Int):Ord (ofF ys f):=by
 have hy:∀x∈ys,LotOk x:=fun x hx=>hl x (h.1.mem_iff.1 hx)
 have h2:(ofF ys f).Pairwise (fun a b=>¬hdC b a<0∧apart a b):=by
  have h3:ys.Pairwise (fun a b=>¬hdC b a<0∧apart a b):=List.pairwise_and_iff.2 ⟨h.2,Apart.perm ha h.1⟩;exact h3.sublist gq
 refine h2.imp_of_mem (fun {a b} hma hmb q=>?_);obtain⟨q1,q2⟩:=q;obtain⟨m1,e1⟩:=ofF_mem.1 hma;obtain⟨m2,e2⟩:=ofF_mem.1 hmb;have g1:=hy a m1;have g2:=hy b m2;rw[nm] at q1;unfold klt at q1;unfold apart at q2;unfold LotOk at g1 g2;omega
theorem tj{f:Int}:∀{ys l:LL},(∀x∈ys,LotOk x)→(∀z∈l,LotOk z∧z.1=f)→ys.foldl subL l=(ofF ys f).foldl subL l
 | [],_,_,_=>rfl
 | p::ys,l,h1,h2=>by
  have hp:=h1 p aw;have h1' : ∀x∈ys,LotOk x:=fun x hx=>h1 x (av _ hx);by_cases e:p.1=f
  ·have e2:ofF (p::ys) f=p::ofF ys f:=cu (by simpa using e);rw[e2];refine tj (ys:=ys) (l:=subL l p) h1' (fun z hz=>?_);obtain⟨y,hy,g1,g2,_⟩:=na hp (fun z hz=>(h2 z hz).1) hz;exact⟨g1,g2.trans (h2 y hy).2⟩
  ·have e2:ofF (p::ys) f=ofF ys f:=cv (by simpa using e);rw[e2];show ys.foldl subL (subL l p)=_;rw[ke (fun z hz=>.inl (fun q=>e (q.symm.trans (h2 z hz).2)))];exact tj h1' h2
theorem DS(t:Lot):∀ys:LL,OV ys t=OV (ofF ys t.1) t
 | []=>rfl
 | p::ys=>by
  have ih:=DS t ys;by_cases e:p.1=t.1
  ·have e2:ofF (p::ys) t.1=p::ofF ys t.1:=cu (by simpa using e);rw[e2];show ov p t+OV ys t=ov p t+OV (ofF ys t.1) t;rw[ih]
  ·have e2:ofF (p::ys) t.1=ofF ys t.1:=cv (by simpa using e);rw[e2];show ov p t+OV ys t=_;rw[ih,show ov p t=0 from if_neg e];omega
theorem Cg{l ys:LL}(h:gh hdC l ys)(hl:∀x∈l,LotOk x)(ha:Apart l){x:Lot}(hx:LotOk x)(s:LL×Int):wLot x (ofF ys x.1) s=((fx ys x).foldl be s.1,s.2 - OV ys x):=by
 have hy:∀x∈ys,LotOk x:=fun x hx=>hl x (h.1.mem_iff.1 hx);have hx2:=hx;unfold LotOk at hx2;obtain⟨h1,h2⟩:=qA hx (ofF ys x.1) s.1 x.2.1 s.2 (zy h hl ha x.1) (fun p hp=>⟨hy p (ofF_mem.1 hp).1,(ofF_mem.1 hp).2⟩) (bu _) ac
 have e1:curL x x.2.1=[x]:=by
  unfold curL;rw[if_pos ac,show x.2.1+x.2.2 - x.2.1=x.2.2 by omega]
 rw[e1] at h1;rw[show x.2.1+x.2.2 - x.2.1=x.2.2 by omega] at h2;unfold wLot;rw[h1,h2];have e2:fx ys x=(ofF ys x.1).foldl subL [x]:=tj hy (fun z hz=>by rw[List.mem_singleton.1 hz];exact⟨hx,rfl⟩);rw[e2,DS x ys]
theorem tB{l ys:LL}(h:gh hdC l ys)(hl:∀x∈l,LotOk x)(ha:Apart l):∀(stack:LL) (s:LL×Int),(∀x∈stack,LotOk x)→wAll ys stack s=(stack.foldl (fun out y=>(fx ys y).foldl be out) s.1,s.2 - OO ys stack)
 | [],s,_=>by
  show s=(s.1,s.2 - 0);rw[show s.2 - 0=s.2 by omega]
 | x::stack,s,hs=>by
  show wAll ys stack (wLot x (ofF ys x.1) s)=_;rw[Cg h hl ha (hs x aw) s,tB h hl ha stack _ (fun z hz=>hs z (av _ hz))];show(_,s.2 - OV ys x - OO ys stack)=(_,s.2 - (OV ys x+OO ys stack));rw[show s.2 - OV ys x - OO ys stack=s.2 - (OV ys x+OO ys stack) by omega];rfl
theorem DY{ps ys stack:LL}(h:gh hdC ps ys)(hp:∀x∈ps,LotOk x)(ha:Apart ps)(hs:∀x∈stack,LotOk x):wAll ys stack ([],lsum ys)=(eh stack ps,lsum ps - OO ps stack):=by
 rw[tB h hp ha stack _ hs,CV h.1,Gi h.1];have e:stack.foldl (fun out y=>(fx ys y).foldl be out) []=eh stack ys:=rfl
 have e2:eh stack ys=eh stack ps:=by
  rw[nv,nv];rw[EK h.1.symm hp ha hs]
 show(stack.foldl (fun out y=>(fx ys y).foldl be out) [],_)=_;rw[e,e2]
theorem ro{ps own:LL}(h1:eZ ps)(ha:Apart ps)(h2:eZ own)(ho:Apart own):fT ps own↔lsum ps - OO ps own=0:=by
 have hs:=kL h1.1;have e1:lsum (fF ps own)=lsum (setL ps) - OO (setL ps) own:=mu hs.2 h2.1 ho;have hd:=(lY h1.1).2 ha;obtain⟨_,_,g3,_⟩:=kM h1.1 ps.length (aB _);rw[bG] at g3;have e3:OO (setL ps) own=OO ps own:=vb (fun t ht=>(g3 hd).2 t (h2.1 t ht));rw[hd,e3] at e1;have hok:=(ki h1.1 h2.1).1;constructor
 ·rintro⟨_,_,h3⟩;rw[h3,iv] at e1;exact e1.symm
 ·intro h;refine⟨h1,h2,?_⟩;rw[h] at e1;cases hm:fF ps own with
  | nil=>rfl
  | cons x l =>
   rw[hm] at e1 hok;have:=jw hok (Nat.zero_lt_succ l.length)
   omega
end
end Go.Proofs.YtommnllbflbdmaaGreatDoor
namespace Go.V
theorem Ent.l7{α:Type}{f:α→HP}{l l' : List α}(h:l.Perm l'){L:LH}:Ent (bigO f l::L) (bigO f l'::L):=fun θ R w s=>by
 have s1:=Sat.ofStars (A:=l.map f) s;have s2:Sat θ (l'.map f++(L++R)) w:=s1.perm ((h.map f).append_right _);exact Sat.d7 (A:=l'.map f) s2
end Go.V
namespace Go.Proofs.YtommnllbflbdmaaGreatDoor
open Go.V
attribute [local irreducible] G GO GP GPW GPK Ev Ef EfR Ent CB GB V.Enters
section
variable {κ α:Type}[DecidableEq κ]
theorem nW:∀{m:List (κ×α)} {k:κ},k∉m.map (·.1)→gera m k=m
 | [],_,_=>rfl
 | p::m,k,h=>by
  simp only[bO,bj,not_or] at h;have e:(p.1 == k)=false:=by rw[beq_eq_false_iff_ne];exact fun x=>h.1 x.symm
  have ih:=nW (m:=m) (k:=k) h.2;unfold gera at ih ⊢;rw[cu (by rw[e];rfl),ih]
theorem mh:∀{m:List (κ×α)} {k:κ},glk m k=none→k∉m.map (·.1)
 | [],_,_=>by simp
 | p::m,k,h=>by
  obtain⟨q,a⟩:=p;unfold glk at h;rw[df] at h;by_cases e:k=q
  ·subst e;simp at h
  ·have e2:(k == q)=false:=by rw[beq_eq_false_iff_ne];exact e
   rw[e2] at h;have:=mh (m:=m) (k:=k) h
   simp only[bO,bj,not_or];exact⟨e,this⟩
theorem mC:∀{m:List (κ×α)} {k:κ} {a:α},(m.map (·.1)).Nodup→glk m k=some a→m.Perm ((k,a)::gera m k)
 | [],_,_,_,h=>by cases h
 | p::m,k,a,hn,h=>by
  obtain⟨q,b⟩:=p;simp only[bO,dM] at hn;unfold glk at h;rw[df] at h;by_cases e:k=q
  ·subst e;simp only[beq_self_eq_true] at h;obtain rfl:b=a:=by simpa using h
   have e3:gera ((k,b)::m) k=m:=by
    have:=nW hn.1
    unfold gera at this ⊢;rw[cv (by simp),this]
   rw[e3]
  ·have e2:(k == q)=false:=by rw[beq_eq_false_iff_ne];exact e
   rw[e2] at h;have ih:=mC hn.2 h
   have e3:gera ((q,b)::m) k=(q,b)::gera m k:=by
    unfold gera;rw[cu (by simp;exact fun x=>e x.symm)]
   rw[e3];exact(List.Perm.cons _ ih).trans (List.Perm.swap _ _ _)
theorem tX{k:κ}{a:α}:∀m:List (κ×α),gera (m.map fun p=>if p.1=k then(k,a) else p) k=gera m k
 | []=>rfl
 | p::m=>by
  have ih:=tX (k:=k) (a:=a) m;unfold gera at ih ⊢;simp only[bO];by_cases e:p.1=k
  ·rw[if_pos e,cv (by simp),cv (by simp[e]),ih]
  ·rw[if_neg e,cu (by simp[e]),cu (by simp[e]),ih]
theorem Dp{m:List (κ×α)}{k:κ}{a:α}(hn:(m.map (·.1)).Nodup):(gins m k a).Perm ((k,a)::gera m k):=by
 have h1:=mC (m:=gins m k a) (k:=k) (a:=a) (lr hn) (by rw[jY,if_pos rfl])
 have h2:gera (gins m k a) k=gera m k:=by
  unfold gins;split
  ·exact tX m
  ·unfold gera;rw[dJ];simp
 rw[h2] at h1;exact h1
end
def fk(p:Int×Stk):HP:=osl an 3 tLot p.2.ad p.2.cap p.2.lots
def eW(m:List (Int×Stk))(f:Int):Stk:=(glk m f).getD ⟨none,0,[]⟩
theorem qE{m:List (Int×Stk)}{f:Int}(hn:(m.map (·.1)).Nodup){L:LH}:Ent (bigO fk m::L) (osl an 3 tLot (eW m f).ad (eW m f).cap (eW m f).lots::bigO fk (gera m f)::L):=by
 unfold eW;cases h:glk m f with
 | none =>
  rw[nW (mh h)];exact Ent.d8 an 3 tLot
 | some a=>exact(Ent.l7 (mC hn h)).trans Ent.bigO_uncons
theorem vo{m:List (Int×Stk)}{f:Int}(hn:(m.map (·.1)).Nodup){L:LH}:Ent (osl an 3 tLot (eW m f).ad (eW m f).cap (eW m f).lots::bigO fk (gera m f)::L) (bigO fk m::L):=by
 unfold eW;cases h:glk m f with
 | none =>
  rw[nW (mh h)];exact Ent.drop
 | some a=>exact(Ent.l9 (f:=fk) (x:=(f,a))).trans (Ent.l7 (mC hn h).symm)
theorem oD{m:List (Int×Stk)}{f:Int}(hn:(m.map (·.1)).Nodup)(s:Stk){L:LH}:Ent (osl an 3 tLot s.ad s.cap s.lots::bigO fk (gera m f)::L) (bigO fk (gins m f s)::L) :=
 (Ent.l9 (f:=fk) (x:=(f,s))).trans (Ent.l7 (Dp hn).symm)
theorem pG(m:List (Int×Stk))(f:Int):((glk m f).map Stk.v).getD (.slice none 0 0)=.slice (eW m f).ad (eW m f).lots.length (eW m f).cap:=by
 unfold eW;cases glk m f<;>rfl
theorem nx(m:List (Int×Stk))(f g:Int)(s:Stk):eW (gins m f s) g=if g=f then s else eW m g:=by
 unfold eW;rw[jY];split<;>rfl
def stkI(p:Int×Stk):HP:=isl an 3 p.2.ad p.2.lots
theorem Fw(m:List (Int×Stk)){L:LH}:Ent (bigO fk m::L) (allP stkI m::L):=Ent.m5 (fun _=>bT _ _ _ _) (fun _ _=>Ent.freezeSl) m L
theorem Fv(m:List (Int×Stk))(f:Int){L:LH}:Ent (allP stkI m::L) (isl an 3 (eW m f).ad (eW m f).lots::allP stkI m::L):=by
 unfold eW;cases h:glk m f with
 | none=>exact(Ent.d8 an 3 tLot).trans Ent.freezeSl
 | some a=>exact Ent.d9 (f:=stkI) (jp h)
