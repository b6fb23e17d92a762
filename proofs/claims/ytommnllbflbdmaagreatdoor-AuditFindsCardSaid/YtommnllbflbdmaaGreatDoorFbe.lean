/- Lemmas. -/
import Derived.Test.YtommnllbflbdmaaGreatDoorFbc
import Derived.ChangeKeysEq
set_option linter.all false
set_option maxHeartbeats 4000000
namespace Go.Proofs.YtommnllbflbdmaaGreatDoor
section
open Go.V
attribute [local irreducible] G GO GP GPW GPK Ev Ef EfR Ent CB GB V.Enters
def ovP(x y:Lot):Prop:=x.2.1<y.2.1+y.2.2∧y.2.1<x.2.1+x.2.2
instance (x y:Lot):Decidable (ovP x y):=by unfold ovP;infer_instance
abbrev Bj:List Stp:=[.ev 0,.ev 1,.ev 2,.ef 3,.ev 4,.ev 5,.ev 6,.ev 7,.ev 8,.ef 9,.ev 10,.ev 11,.ev 12]
def RV{φ ψ:Prop}(k:ψ)(h:Hid ψ→φ:=by intro k;(repeat (first|refine aa ?_|intro zzz|refine G.dr 16 1 Bj ?_));(repeat revert zzz);exact Hid.out k):φ:=h ⟨k⟩
def uz{L:LH}(b:Nat)(x y:Lot)(hx:LotW x)(hy:LotW y):Tri ai 231 #[aO (aj y),ay b] (obj b tLot (aj x)::L) (rtQ (.bool (dB (ovP x y))) (obj b tLot (aj x)::L)):=by
 refine Tri.bd ?_;refine RV ?_;intros;refine GPW.cr (jf y hy) ?_;by_cases h1:x.2.1<y.2.1+y.2.2
 ·refine RV ?_;intros;refine GPW.cr (jf x hx) ?_;refine RV ?_;intros;refine KX.d7 an ?_ ⟨?_,rfl⟩
  ·exact ag
  ·by_cases h2:y.2.1<x.2.1+x.2.2
   ·rw[aU h2,aU (show ovP x y from⟨h1,h2⟩)];rfl
   ·rw[aH h2,aH (show ¬ovP x y from fun q=>h2 q.2)];rfl
 ·refine RV ?_;intros;rw[aH (show ¬ovP x y from fun q=>h1 q.1)];refine KX.d7 an ?_ ⟨rfl,rfl⟩;exact ag
def wl{C L:LH}(g:FuncId)(cap:LV)(p:Lot→Prop)[DecidablePred p](ad:OA)(n c:Nat)(xs:LL)[hr:Rds (C++L) ad Lot aj 3 xs](hn:n=xs.length)(hl:xs.length≤1000000)(hg:∀y∈xs,Tri ai g (([]++[Value.agg (aj y).toArray]++cap:LV)).toArray (C++L) (rtQ (.bool (dB (p y))) (C++L))) :
  Tri ai 272 #[ah ad n c,.func (.func g) #[] cap.toArray] (C++L) (fun v L'=>∃i:Int,v=ac i∧((i = -1∧∀k,k<xs.length→¬p xs[k]!)∨∃k:Nat,i=k∧k<xs.length∧p xs[k]!∧∀j,j<k→¬p xs[j]!)∧L' = C++L):=by
 subst hn;refine Tri.bd ?_;refine JM ?_;intros;refine G.loop (α:=Nat) (fun i=>i≤xs.length∧∀j,j<i→¬p xs[j]!) (fun i=>[(0,ah ad xs.length c),(1,.func (.func g) #[] cap.toArray),(7,ac (xs.length:Int)),(8,ac (i:Int))]) (fun _=>C++L) (fun i=>xs.length - i) 0 ⟨ax _,fun j hj=>by omega⟩ av (Ent.refl _) ?_;rintro i ⟨hi,hb⟩;by_cases a0:i<xs.length
 case neg =>
  obtain rfl:i=xs.length:=ab;refine JM ?_;intros;exact KX.en ⟨-1,rfl,.inl ⟨rfl,hb⟩,rfl⟩
 have a1:(i:Int).toNat=i:=ab;refine JM ?_;intros;rw[a1];refine GO.ef (Ef.d8 rfl rfl (hg xs[i]! (aJ a0))) ae ?_;rintro _ _⟨rfl,rfl⟩;by_cases hp:p xs[i]!
 ·rw[aU hp];refine JM ?_;intros;exact KX.en ⟨i,rfl,.inr ⟨i,rfl,a0,hp,hb⟩,rfl⟩
 ·rw[aH hp];refine JM ?_;intros;refine⟨i+1,⟨ab,?_⟩,ab,?_,Ent.refl _⟩
  ·intro j hj;rcases cm j i with h|h
   ·exact hb j h
   ·obtain rfl:j=i:=ab;exact hp
  ·rw[aY i];exact av
def sL{C L:LH}(g:FuncId)(cap:LV)(p:Lot→Prop)[DecidablePred p](ad:OA)(n c:Nat)(xs:LL)[hr:Rds (C++L) ad Lot aj 3 xs](hn:n=xs.length)(hl:xs.length≤1000000)(hg:∀y∈xs,Tri ai g (([]++[Value.agg (aj y).toArray]++cap:LV)).toArray (C++L) (rtQ (.bool (dB (p y))) (C++L))) :
  Tri ai 230 #[ah ad n c,.func (.func g) #[] cap.toArray] (C++L) (fun v L'=>v=.bool (dB (∃y∈xs,p y))∧L' = C++L):=by
 refine Tri.bd ?_;refine JM ?_;intros;refine GO.ca (wl g cap p ad n c xs hn hl hg) ?_;rintro _ _⟨i,rfl,hi,rfl⟩;rcases hi with⟨rfl,a0⟩|⟨k,rfl,hk,hp,_⟩
 ·rw[aH (show ¬ ∃y∈xs,p y from fun⟨y,hy,hp⟩=>by
   obtain⟨k,hk,rfl⟩:=List.mem_iff_getElem.1 hy;have:=a0 k hk
   rw[getElem!_of hk] at this;exact this hp)]
  refine JM ?_;intros;exact KX.d7 an (Ent.refl _) ⟨by rw[aH ab];rfl,rfl⟩
 ·rw[aU (show ∃y∈xs,p y from⟨_,aJ hk,hp⟩)];refine JM ?_;intros;exact KX.d7 an (Ent.refl _) ⟨by rw[aU ab];rfl,rfl⟩
def pH{L:LH}(ad:OA)(n c:Nat)(xs:LL)(x:Lot)[hr:Rds L ad Lot aj 3 xs](hn:n=xs.length)(hl:xs.length≤1000000)(a0:∀y∈xs,LotW y)(hx:LotW x) :
  Tri ai 143 #[ah ad n c,aO (aj x)] L (fun v L'=>v=.bool (dB (∃y∈xs,ovP x y))∧L' = L):=by
 refine Tri.bd ?_;refine JM ?_;intros;rename_i b;have a1:Rds ([obj b tLot (aj x)]++L) ad Lot aj 3 xs:=(inferInstance:Rds (obj b tLot (aj x)::L) ad Lot aj 3 xs);refine GO.cr (sL (C:=[obj b tLot (aj x)]) 231 [ay b] (ovP x) ad n c xs hn hl (fun y hy=>uz b x y hx (a0 y hy))) ?_;refine JM ?_;intros;exact KX.d7 an (show Ent (obj b tLot (aj x)::L) L by exact ag) ⟨rfl,rfl⟩
def ltV(x:Lot):LV:=[aO (aj x)]
def wM{L0:LH}(bx:Nat)(ad:OA)(c:Nat)(l:LL)[a5:Rds L0 ad Lot aj 3 l](hm:l.length≤1000000) :
  Iter ai 292 [ay bx] (l.map ltV) (obj bx fJ [ah ad l.length c]::L0):=by
 intro i J Jx hy;rw[az]
 have a3 : ∀k (hk:k<l.length),YTri ai i (ltV l[k]!) [J k] (fun v L'=>(v=.bool true∧L' = [J (k+1)])∨(v=.bool false∧L' = [Jx k])):=by
  intro k hk;have h:=hy k (by rw[az];exact hk);rw[cK] at h;rw[getElem!_of hk];exact h
 clear hy;refine Tri.bd (args:=[.func (.yield i) #[] #[],ay bx]) ?_;refine JM ?_;intros;refine G.loop (α:=Nat) (fun k=>k≤l.length) (fun k=>[(0,.func (.yield i) #[] #[]),(1,ay bx),(5,ah ad l.length c),(6,ac l.length),(7,ac (k:Int))]) (fun k=>J k::obj bx fJ [ah ad l.length c]::L0) (fun k=>l.length - k) 0 (ax _) av (Ent.refl _) ?_;intro k hk;by_cases a2:k<l.length
 case neg =>
  have a1:k=l.length:=ab;refine JM ?_;intros;refine KX.e7 an (Ent.refl _) (.inl ?_);rw[a1]
 have a4:=a3 k a2;have a0:(k:Int).toNat=k:=aC k;refine JM ?_;intros;rw[a0];refine GO.ent Ent.swap ?_;((with_reducible apply GO.d7);refine GO.efR (EfR.yield (a4) rfl rfl cN) ae ?_);rintro _ _⟨_,(⟨rfl,rfl⟩|⟨rfl,rfl⟩),hL⟩
 ·simp only[ao,al] at hL;subst hL;refine JM ?_;intros;refine⟨k+1,ab,ab,?_,?_⟩
  ·rw[show(((k+1:Nat)):Int)=(k:Int)+1 by omega];exact av
  ·exact Ent.d7 Ent.drop
 ·simp only[ao,al] at hL;subst hL;refine JM ?_;intros;exact KX.d7 an (Ent.d7 Ent.drop) (.inr ⟨k,rfl⟩)
def ug{L:LH}(bx:Nat)(ad:OA)(c:Nat)(l:LL)[a7:Rds L ad Lot aj 3 l](hm:l.length≤1000000) :
  Tri ai 308 #[ah none 0 0,.func (.func 292) #[] #[ay bx]] (obj bx fJ [ah ad l.length c]::L) (fun v L'=>∃a2 a1,v=ah a2 l.length a1∧L' = osl aj 3 tLot a2 a1 l::obj bx fJ [ah ad l.length c]::L):=by
 refine Tri.bd ?_;refine JM ?_;intros;rename_i b2;refine G.rangeFunc (wM (L0:=L) bx ad c l hm) rfl en292.1 ae (by intro vs a5;obtain⟨r,_,rfl⟩:=List.mem_map.1 a5;rfl) (fun k=>[stkO b2 (l.take k)]) ?_ ?_ ?_
 ·simp only[ao,al,bK];refine Ent.trans ?_ (Ent.l0 (none,0) (f:=stkA b2 []) (Ent.refl _));simp only[stkA,cB,ao,al];refine Ent.trans (Ent.d8 aj 3 tLot) ?_;exact ag
 ·intro k hk;rw[az] at hk;rw[cK];have a3:l.take (k+1)=l.take k++[l[k]]:=aG hk;rw[a3];have a4:(l.take k).length≤1000000:=by rw[bg];omega
  generalize l.take k=T at a4;generalize l[k]=x;show G _ _ _ ((7,aO (aj x))::_) _ _;refine G.d9 (f:=stkA b2 T) ?_;rintro⟨a6,c1⟩;simp only[stkA,ao,al];refine JM ?_;intros;refine GO.ef (Ef.d7 (enc:=aj) (e:=x) rfl rfl rfl rfl rfl aK (bX _) ab ab) ae ?_;rintro _ _⟨ad2,a0,rfl,rfl⟩;refine JM ?_;intros;refine KX.round ?_;refine Ent.trans ?_ (Ent.l0 (ad2,a0) (f:=stkA b2 (T++[x])) (Ent.refl _));simp only[stkA,ao,al];exact ag
 rw[az,bC];simp only[ao,al];refine KX.d8 ?_;refine JM ?_;intros;refine GO.g9 (f:=stkA b2 l) ?_;rintro⟨ad2,a0⟩;simp only[stkA,ao,al];refine JM ?_;intros;refine KX.d7 an ?_ ⟨ad2,a0,rfl,rfl⟩;exact ag
def wm{L:LH}(bx:Nat)(ad:OA)(c:Nat)(l:LL)[a3:Rds L ad Lot aj 3 l](hm:l.length≤1000000) :
  Tri ai 291 #[.func (.func 292) #[] #[ay bx]] (obj bx fJ [ah ad l.length c]::L) (fun v L'=>∃a1 a0,v=ah a1 l.length a0∧L' = osl aj 3 tLot a1 a0 l::obj bx fJ [ah ad l.length c]::L):=by
 refine Tri.bd ?_;refine JM ?_;intros;refine GO.ca (ug bx ad c l hm) ?_;rintro _ _⟨a2,c1,rfl,rfl⟩;refine JM ?_;intros;exact KX.en ⟨a2,c1,rfl,rfl⟩
abbrev Bi:=aG9 [.ev 5,.ev 6,.ev 7,.ev 8,.ef 4,.ef 9,.ef 10,.ef 11,.ev 12]
def Sa{φ ψ:Prop}(k:ψ)(h:Hid ψ→φ:=by intro k;(repeat (first|refine aa ?_|intro zzz|refine G.dr 17 1 Bi ?_));(repeat revert zzz);exact Hid.out k):φ:=h ⟨k⟩
def yZ{L:LH}(x y:Lot):Tri ai 275 #[aO (aj x),aO (aj y)] L (rtQ (ac (hdC x y)) L):=by
 refine Tri.bd ?_;refine Sa ?_;intros;refine GPW.cr (jj x.1 y.1) ?_;refine Sa ?_;intros;refine GPW.cr (jj x.2.1 y.2.1) ?_;refine Sa ?_;intros;rename_i bc;refine GPW.ent (Ent.f7 (enc:=encZ .i64) (sz:=1) (xs:=[cmpI x.1 y.1,cmpI x.2.1 y.2.1]) rfl rfl (fun _ _=>rfl) ce) ?_;refine GPW.cr (mI (some ⟨bc,0,none⟩) 2 (cmpI x.1 y.1) (cmpI x.2.1 y.2.1)) ?_;refine Sa ?_;intros;exact KX.en ⟨rfl,rfl⟩
def wX{E cap:Nat}{ad:OA}{xs:LL}(a0:xs.length<4611686018427387904) :
  Tri ai 282 #[ah ad xs.length cap,.func (.func 275) #[] #[]] [osl aj 3 E ad cap xs] (fun v L'=>v=.tuple #[]∧∃ys,fj hdC xs ys∧L' = [osl aj 3 E ad cap ys]) :=
 Tri.d7 (ρ:=Tryz.sortL_ren) Tryz.sortL (k:=3) Tryz.isAgg91 Tryz.sizeOf91 (fun _=>rfl) bX (Lc:=[]) hdC uI Ib en275.1 (fun _ _ _=>trivial) (fun x y=>(yZ (L:=[]) x y).mono (fun _ _ h=>h.1)) a0
def uv{L:LH}(bx:Nat)(ad:OA)(c:Nat)(l:LL)[a5:Rds L ad Lot aj 3 l](hm:l.length≤1000000) :
  Tri ai 273 #[.func (.func 292) #[] #[ay bx],.func (.func 275) #[] #[]] (obj bx fJ [ah ad l.length c]::L) (fun v L'=>∃a1 a0 ys,v=ah a1 ys.length a0∧fj hdC l ys∧L' = osl aj 3 tLot a1 a0 ys::obj bx fJ [ah ad l.length c]::L):=by
 refine Tri.bd ?_;refine JM ?_;intros;refine GO.ca (wm bx ad c l hm) ?_;rintro _ _⟨a2,c1,rfl,rfl⟩;refine JM ?_;intros;(first|refine GO.ef (Ef.call (wX (E:=tLot) (ad:=a2) (cap:=c1) (xs:=l) ab) rfl cN) ae ?_);rintro _ _⟨_,⟨rfl,ys,a3,rfl⟩,hL⟩;simp only[ao,al] at hL;subst hL;have a4:=a3.1.length_eq;refine JM ?_;intros;exact KX.d7 an (Ent.refl _) ⟨a2,c1,ys,by rw[a4];rfl,a3,rfl⟩
def wL{L:LH}(ad:OA)(n c:Nat) :
  Tri ai 274 #[ah ad n c] L (fun v L'=>∃bx,v=.func (.func 292) #[] #[ay bx]∧L' = obj bx fJ [ah ad n c]::L):=by
 refine Tri.bd ?_;refine JM ?_;intros;rename_i bx;exact KX.en ⟨bx,rfl,rfl⟩
def rT{L:LH}(ad:OA)(n c:Nat)(l:LL)[a4:Rds L ad Lot aj 3 l](hn:n=l.length)(hm:l.length≤1000000) :
  Tri ai 239 #[ah ad n c] L (fun v L'=>∃a1 a0 ys,v=ah a1 ys.length a0∧fj hdC l ys∧L' = osl aj 3 tLot a1 a0 ys::L):=by
 subst hn;refine Tri.bd ?_;refine JM ?_;intros;refine GO.ca (wL ad l.length c) ?_;rintro _ _⟨bx,rfl,rfl⟩;refine JM ?_;intros;refine GO.ca (uv bx ad c l hm) ?_;rintro _ _⟨a2,c1,ys,rfl,a3,rfl⟩;refine JM ?_;intros;refine KX.d7 an ?_ ⟨a2,c1,ys,rfl,a3,rfl⟩;exact ag
instance (l:LL):Decidable (Apart l):=by unfold Apart apart;infer_instance
def fY(l:LL)(n:Int):Prop:=dQ l∧Apart l∧lsum l=n
instance (l:LL)(n:Int):Decidable (fY l n):=by unfold fY;infer_instance
def partsA_iff{l:LL}{n:Int}:fY l n↔oo l n:=by
 constructor
 ·rintro⟨h1,h2,h3⟩;exact⟨h1,h3,((mT h1.1).2 h2).trans h3⟩
 ·rintro⟨h1,h2,h3⟩;exact⟨h1,(mT h1.1).1 (h3.trans h2.symm),h2⟩
def EK{x y:Lot}(h:apart x y):apart y x:=by unfold apart at *;omega
def Apart.perm{l m:LL}(h:Apart l)(p:m.Perm l):Apart m:=(p.pairwise_iff (fun {a b} q=>EK q)).2 h
def nbr(ys:LL)(k:Nat):Prop:=∀i,i+1<k→¬(ys[i+1]!.1=ys[i]!.1∧ys[i+1]!.2.1<ys[i]!.2.1+ys[i]!.2.2)
def uu{ys:LL}(hs:ys.Pairwise (fun a b=>¬hdC b a<0)){i j:Nat}(h:i<j)(hj:j<ys.length):ys[i]!.1<ys[j]!.1∨(ys[i]!.1=ys[j]!.1∧ys[i]!.2.1≤ys[j]!.2.1):=by
 have:=(List.pairwise_iff_getElem.1 hs) i j ab hj h
 rw[nb] at this;unfold klt at this;rw[getElem!_of hj,getElem!_of ab];omega
def vo{ys:LL}(hs:ys.Pairwise (fun a b=>¬hdC b a<0))(hl:∀x∈ys,LotOk x)(hn:nbr ys ys.length){a:Nat}:∀b,a<b→b<ys.length→ys[a]!.1=ys[b]!.1→ys[a]!.2.1+ys[a]!.2.2≤ys[b]!.2.1
 | 0,h,_,_=>absurd h (cj a)
 | b+1,h,hb,e=>by
  have h1:=hn b hb;rcases cm a b with q|q
  ·have g1:=uu hs q ab;have g2:=uu hs (ab:b<b+1) hb;have e2:ys[a]!.1=ys[b]!.1:=ab;have ih:=vo hs hl hn b q ab e2;have a0:=hl _ (aJ (ab:b<ys.length));unfold LotOk at a0;omega
  ·obtain rfl:a=b:=ab;omega
def FK{l ys:LL}(h:fj hdC l ys)(hl:∀x∈l,LotOk x):nbr ys ys.length↔Apart l:=by
 have hy:∀x∈ys,LotOk x:=fun x hx=>hl x (h.1.mem_iff.1 hx);constructor
 ·intro hn;refine Apart.perm (m:=l) ?_ h.1.symm;refine List.pairwise_iff_getElem.2 (fun i j hi hj a0=>?_);have g:=vo h.2 hy hn j a0 hj;rw[getElem!_of hi,getElem!_of hj] at g;unfold apart;by_cases e:ys[i].1=ys[j].1
  ·exact .inr (.inl (g e))
  ·exact .inl e
 ·intro ha i hi;have hp:=(List.pairwise_iff_getElem.1 (Apart.perm ha h.1)) i (i+1) ab hi ab;rw[←getElem!_of hi,←getElem!_of ab] at hp;have g:=uu h.2 (ab:i<i+1) hi;have h1:=hy _ (aJ (ab:i<ys.length));have h2:=hy _ (aJ hi);unfold apart at hp;unfold LotOk at h1 h2;omega
abbrev xU:=aH4 [.ev 17,.ev 18,.ev 19,.ev 20,.ev 21,.ev 22,.ef 23,.ev 24,.ev 25]
def Se{φ ψ:Prop}(k:ψ)(h:Hid ψ→φ:=by intro k;(repeat (first|refine aa ?_|intro zzz|refine G.dr 87 15 xU ?_));(repeat revert zzz);exact Hid.out k):φ:=h ⟨k⟩
def kI{L:LH}(ad:OA)(n c:Nat)(xs:LL)(m:Int)[hr:Rds L ad Lot aj 3 xs](hn:n=xs.length)(hm:n≤9223372036854775807) :
  Tri ai 234 #[ah ad n c,ac m] L (rtQ (.bool (dB (fY xs m))) L):=by
 subst hn;refine Tri.bd ?_;by_cases h0:xs.length≤4096
 case neg =>
  refine Se ?_;intros;exact KX.d7 an (Ent.refl _) ⟨by rw[aH (show ¬fY xs m from fun q=>h0 q.1.2)];rfl,rfl⟩
 refine Se ?_;intros;refine G.loop (α:=Nat) (fun i=>i≤xs.length∧(∀k,k<i→LotOk xs[k]!)∧0≤lsum (xs.take i)∧lsum (xs.take i)≤(i:Int)*1099511627776) (fun i=>[(0,ah ad xs.length c),(1,ac m),(5,ac (lsum (xs.take i))),(13,ah ad xs.length c),(14,ac xs.length),(15,ac (i:Int))]) (fun _=>L) (fun i=>xs.length - i) 0 ⟨ax _,fun k hk=>absurd hk (cj k),bB _,bB _⟩ av (Ent.refl _) ?_;rintro i ⟨hi,a5,b3,b4⟩;by_cases a3:i<xs.length
 case pos =>
  have a1:(i:Int).toNat=i:=ab;have hs:=eK xs a3;by_cases hp:LotOk xs[(i:Int).toNat]!
  ·have b1:=hp;unfold LotOk at b1
   have c0:1≤xs[i]!.2.2∧xs[i]!.2.2≤1099511627776:=by
    rw[a1] at b1;omega
   have b9:(i:Int)*1099511627776≤4096*1099511627776:=cd ab ae
   have b7:((i+1:Nat):Int)*1099511627776=(i:Int)*1099511627776+1099511627776:=by
    rw[Int.natCast_add,Int.add_mul];rfl
   refine Se ?_;intros;refine⟨i+1,⟨ab,fun k hk=>?_,by rw[hs];omega,by rw[hs,b7];omega⟩,ab,?_,by exact ag⟩
   ·by_cases e:k=i
    ·rw[e,←a1];exact hp
    ·exact a5 k ab
   ·rw[aY i,hs,show xs[i]! = xs[(i:Int).toNat]! by rw[a1]];exact av
  ·have a4:dB (fY xs m)=false:=aH (fun q=>hp (by rw[a1];exact q.1.1 _ (aJ a3)));rw[a4];unfold LotOk at hp;by_cases p1:0≤xs[(i:Int).toNat]!.1
   case neg =>
    refine Se ?_;intros;exact KX.en ⟨rfl,rfl⟩
   by_cases p2:0≤xs[(i:Int).toNat]!.2.1
   case neg =>
    refine Se ?_;intros;exact KX.en ⟨rfl,rfl⟩
   by_cases p3:xs[(i:Int).toNat]!.2.1≤1099511627776
   case neg =>
    refine Se ?_;intros;exact KX.en ⟨rfl,rfl⟩
   by_cases p4:1≤xs[(i:Int).toNat]!.2.2
   case neg =>
    refine Se ?_;intros;exact KX.en ⟨rfl,rfl⟩
   refine Se ?_;intros;exact KX.en ⟨rfl,rfl⟩
 have a0:∀x∈xs,LotOk x:=fun x hx=>by
  obtain⟨k,hk,e⟩:=List.mem_iff_getElem.1 hx;have h2:=a5 k ab;rw[getElem!_of hk,e] at h2;exact h2
 obtain rfl:i=xs.length:=ab;rw[bC];refine Se ?_;intros;refine GO.ca (rT ad xs.length c xs rfl ab) ?_;rintro _ _⟨a7,c1,ys,rfl,a6,rfl⟩;have c2:=a6.1.length_eq;have b8:∀x∈ys,LotOk x:=fun x hx=>a0 x (a6.1.mem_iff.1 hx);have a8:=FK a6 a0;refine Se ?_;intros;refine G.loop (α:=Nat) (fun i=>1≤i∧i≤ys.length+1∧nbr ys i) (fun i=>[(1,ac m),(5,ac (lsum xs)),(8,ah a7 ys.length c1),(9,ac (i:Int))]) (fun _=>osl aj 3 tLot a7 c1 ys::L) (fun i=>ys.length+1 - i) 1 ⟨aB _,ab,fun i hi=>by omega⟩ av (Ent.refl _) ?_;clear hi a5 b3 b4 a3;rintro i ⟨h1,hi,a9⟩;by_cases a3:i<ys.length
 case neg =>
  have b2:Apart xs:=a8.1 (fun k hk=>a9 k ab);refine Se ?_;intros;refine KX.d7 an ag ⟨?_,rfl⟩;by_cases he:lsum xs=m
  ·rw[aU he,aU (show fY xs m from⟨⟨a0,h0⟩,b2,he⟩)];rfl
  ·rw[aH he,aH (show ¬fY xs m from fun q=>he q.2.2)];rfl
 have a1:(i:Int).toNat=i:=ab;have a2:((i:Int) - 1).toNat=i - 1:=ab
 have hw:LotW ys[((i:Int) - 1).toNat]!:=by
  rw[a2];exact(b8 _ (aJ ab)).w
 have b5 : (i:Int).toNat<ys.length:=ab;have b6:((i:Int) - 1).toNat<ys.length:=ab
 have b0:¬(ys[(i:Int).toNat]!.1=ys[((i:Int) - 1).toNat]!.1∧ys[(i:Int).toNat]!.2.1<ys[((i:Int) - 1).toNat]!.2.1+ys[((i:Int) - 1).toNat]!.2.2)→nbr ys (i+1):=fun q k hk=>by
  by_cases e:k+1<i
  ·exact a9 k e
  ·obtain rfl:k=i - 1:=ab;rw[a1,a2] at q;rw[show i - 1+1=i by omega];exact q
 by_cases e1:ys[(i:Int).toNat]!.1=ys[((i:Int) - 1).toNat]!.1
 ·refine Se ?_;intros;refine GPW.cr (jf ys[((i:Int) - 1).toNat]! hw) ?_;by_cases e2:ys[(i:Int).toNat]!.2.1<ys[((i:Int) - 1).toNat]!.2.1+ys[((i:Int) - 1).toNat]!.2.2
  ·have a4:dB (fY xs m)=false:=aH (fun q=>by
    have h3:=a8.2 q.2.1 (i - 1) ab;rw[a1,a2] at e1 e2;rw[show i - 1+1=i by omega] at h3;exact h3 ⟨e1,e2⟩)
   rw[a4];refine Se ?_;intros;exact KX.en ⟨rfl,rfl⟩
  ·refine Se ?_;intros;refine⟨i+1,⟨ab,ab,b0 (fun q=>e2 q.2)⟩,ab,?_,by exact ag⟩;rw[aY i];exact av
 ·refine Se ?_;intros;refine⟨i+1,⟨ab,ab,b0 (fun q=>e1 q.1)⟩,ab,?_,by exact ag⟩;rw[aY i];exact av
end
section
open Go.V
def Co{a b:LL}(p:a.Perm b)(t:Lot):OV a t=OV b t:=by
 induction p with
 | nil=>rfl
 | cons x p ih=>show ov x t+OV _ t=ov x t+OV _ t;rw[ih]
 | swap x y l=>show ov y t+(ov x t+OV l t)=ov x t+(ov y t+OV l t);omega
 | trans p1 p2 ih1 ih2=>exact ih1.trans ih2
def vt{a b:LL}(p:a.Perm b):lsum a=lsum b:=by
 induction p with
 | nil=>rfl
 | cons x p ih=>rw[gI,gI,ih]
 | swap x y l=>rw[gI,gI,gI,gI];omega
 | trans p1 p2 ih1 ih2=>exact ih1.trans ih2
def IT{a b:LL}(p:a.Perm b)(s:LL):OO a s=OO b s:=wC (fun t _=>Co p t)
def ofF_mem{ys:LL}{f:Int}{p:Lot}:p∈ofF ys f↔p∈ys∧p.1=f:=by
 unfold ofF;rw[List.mem_filter];simp
def BT{l ys:LL}(h:fj hdC l ys)(hl:∀x∈l,LotOk x)(ha:Apart l)(f:Int):Ord (ofF ys f):=by
 have hy:∀x∈ys,LotOk x:=fun x hx=>hl x (h.1.mem_iff.1 hx)
 have h2:(ofF ys f).Pairwise (fun a b=>¬hdC b a<0∧apart a b):=by
  have h3:ys.Pairwise (fun a b=>¬hdC b a<0∧apart a b):=List.pairwise_and_iff.2 ⟨h.2,Apart.perm ha h.1⟩;exact h3.sublist gT
 refine h2.imp_of_mem (fun {a b} hma hmb q=>?_);obtain⟨q1,q2⟩:=q;obtain⟨m1,e1⟩:=ofF_mem.1 hma;obtain⟨m2,e2⟩:=ofF_mem.1 hmb;have g1:=hy a m1;have g2:=hy b m2;rw[nb] at q1;unfold klt at q1;unfold apart at q2;unfold LotOk at g1 g2;omega
def uR{f:Int}:∀{ys l:LL},(∀x∈ys,LotOk x)→(∀z∈l,LotOk z∧z.1=f)→ys.foldl subL l=(ofF ys f).foldl subL l
 | [],_,_,_=>rfl
 | p::ys,l,h1,h2=>by
  have hp:=h1 p au;have a0 : ∀x∈ys,LotOk x:=fun x hx=>h1 x (aw _ hx);by_cases e:p.1=f
  ·have e2:ofF (p::ys) f=p::ofF ys f:=cI (by simpa using e);rw[e2];refine uR (ys:=ys) (l:=subL l p) a0 (fun z hz=>?_);obtain⟨y,hy,g1,g2,_⟩:=mN hp (fun z hz=>(h2 z hz).1) hz;exact⟨g1,g2.trans (h2 y hy).2⟩
  ·have e2:ofF (p::ys) f=ofF ys f:=cJ (by simpa using e);rw[e2];show ys.foldl subL (subL l p)=_;rw[kM (fun z hz=>.inl (fun q=>e (q.symm.trans (h2 z hz).2)))];exact uR a0 h2
def GL(t:Lot):∀ys:LL,OV ys t=OV (ofF ys t.1) t
 | []=>rfl
 | p::ys=>by
  have ih:=GL t ys;by_cases e:p.1=t.1
  ·have e2:ofF (p::ys) t.1=p::ofF ys t.1:=cI (by simpa using e);rw[e2];show ov p t+OV ys t=ov p t+OV (ofF ys t.1) t;rw[ih]
  ·have e2:ofF (p::ys) t.1=ofF ys t.1:=cJ (by simpa using e);rw[e2];show ov p t+OV ys t=_;rw[ih,show ov p t=0 from if_neg e];omega
def EX{l ys:LL}(h:fj hdC l ys)(hl:∀x∈l,LotOk x)(ha:Apart l){x:Lot}(hx:LotOk x)(s:LL×Int):wLot x (ofF ys x.1) s=((eQ ys x).foldl aZ s.1,s.2 - OV ys x):=by
 have hy:∀x∈ys,LotOk x:=fun x hx=>hl x (h.1.mem_iff.1 hx);have a0:=hx;unfold LotOk at a0;obtain⟨h1,h2⟩:=rU hx (ofF ys x.1) s.1 x.2.1 s.2 (BT h hl ha x.1) (fun p hp=>⟨hy p (ofF_mem.1 hp).1,(ofF_mem.1 hp).2⟩) (bB _) ab
 have e1:curL x x.2.1=[x]:=by
  unfold curL;rw[if_pos ab,show x.2.1+x.2.2 - x.2.1=x.2.2 by omega]
 rw[e1] at h1;rw[show x.2.1+x.2.2 - x.2.1=x.2.2 by omega] at h2;unfold wLot;rw[h1,h2];have e2:eQ ys x=(ofF ys x.1).foldl subL [x]:=uR hy (fun z hz=>by rw[List.mem_singleton.1 hz];exact⟨hx,rfl⟩);rw[e2,GL x ys]
def va{l ys:LL}(h:fj hdC l ys)(hl:∀x∈l,LotOk x)(ha:Apart l):∀(a0:LL) (s:LL×Int),(∀x∈a0,LotOk x)→wAll ys a0 s=(a0.foldl (fun out y=>(eQ ys y).foldl aZ out) s.1,s.2 - OO ys a0)
 | [],s,_=>by
  show s=(s.1,s.2 - 0);rw[show s.2 - 0=s.2 by omega]
 | x::a0,s,hs=>by
  show wAll ys a0 (wLot x (ofF ys x.1) s)=_;rw[EX h hl ha (hs x au) s,va h hl ha a0 _ (fun z hz=>hs z (aw _ hz))];show(_,s.2 - OV ys x - OO ys a0)=(_,s.2 - (OV ys x+OO ys a0));rw[show s.2 - OV ys x - OO ys a0=s.2 - (OV ys x+OO ys a0) by omega];rfl
def GW{ps ys a0:LL}(h:fj hdC ps ys)(hp:∀x∈ps,LotOk x)(ha:Apart ps)(hs:∀x∈a0,LotOk x):wAll ys a0 ([],lsum ys)=(dS a0 ps,lsum ps - OO ps a0):=by
 rw[va h hp ha a0 _ hs,vt h.1,IT h.1];have e:a0.foldl (fun out y=>(eQ ys y).foldl aZ out) []=dS a0 ys:=rfl
 have e2:dS a0 ys=dS a0 ps:=by
  rw[oC,oC];rw[HJ h.1.symm hp ha hs]
 show(a0.foldl (fun out y=>(eQ ys y).foldl aZ out) [],_)=_;rw[e,e2]
def oA{ps own:LL}(h1:dQ ps)(ha:Apart ps)(h2:dQ own)(ho:Apart own):fx ps own↔lsum ps - OO ps own=0:=by
 have hs:=lD h1.1;have e1:lsum (gr ps own)=lsum (setL ps) - OO (setL ps) own:=nl hs.2 h2.1 ho;have hd:=(mT h1.1).2 ha;obtain⟨_,_,g3,_⟩:=lE h1.1 ps.length (aB _);rw[bC] at g3;have e3:OO (setL ps) own=OO ps own:=wC (fun t ht=>(g3 hd).2 t (h2.1 t ht));rw[hd,e3] at e1;have a0:=(kR h1.1 h2.1).1;constructor
 ·rintro⟨_,_,h3⟩;rw[h3,ik] at e1;exact e1.symm
 ·intro h;refine⟨h1,h2,?_⟩;rw[h] at e1;cases hm:gr ps own with
  | nil=>rfl
  | cons x l =>
   rw[hm] at e1 a0;have:=jy a0 (Nat.zero_lt_succ l.length)
   omega
end
end Go.Proofs.YtommnllbflbdmaaGreatDoor
namespace Go.V
def Ent.l8{α:Type}{f:α→HP}{l l' : List α}(h:l.Perm l'){L:LH}:Ent (bigO f l::L) (bigO f l'::L):=fun θ R w s=>by
 have s1:=Sat.ofStars (A:=l.map f) s;have s2:Sat θ (l'.map f++(L++R)) w:=s1.perm ((h.map f).append_right _);exact Sat.d7 (A:=l'.map f) s2
end Go.V
namespace Go.Proofs.YtommnllbflbdmaaGreatDoor
section
open Go.V
attribute [local irreducible] G GO GP GPW GPK Ev Ef EfR Ent CB GB V.Enters
section
variable {κ α:Type}[DecidableEq κ]
def pg:∀{m:List (κ×α)} {k:κ},k∉m.map (·.1)→gera m k=m
 | [],_,_=>rfl
 | p::m,k,h=>by
  simp only[bL,bA,not_or] at h;have e:(p.1 == k)=false:=by rw[beq_eq_false_iff_ne];exact fun x=>h.1 x.symm
  have ih:=pg (m:=m) (k:=k) h.2;unfold gera at ih ⊢;rw[cI (by rw[e];rfl),ih]
def nh:∀{m:List (κ×α)} {k:κ},glk m k=none→k∉m.map (·.1)
 | [],_,_=>by simp
 | p::m,k,h=>by
  obtain⟨q,a⟩:=p;unfold glk at h;rw[dq] at h;by_cases e:k=q
  ·subst e;simp at h
  ·have e2:(k == q)=false:=by rw[beq_eq_false_iff_ne];exact e
   rw[e2] at h;have:=nh (m:=m) (k:=k) h
   simp only[bL,bA,not_or];exact⟨e,this⟩
def nv:∀{m:List (κ×α)} {k:κ} {a:α},(m.map (·.1)).Nodup→glk m k=some a→m.Perm ((k,a)::gera m k)
 | [],_,_,_,h=>by cases h
 | p::m,k,a,hn,h=>by
  obtain⟨q,b⟩:=p;simp only[bL,dX] at hn;unfold glk at h;rw[dq] at h;by_cases e:k=q
  ·subst e;simp only[beq_self_eq_true] at h;obtain rfl:b=a:=by simpa using h
   have e3:gera ((k,b)::m) k=m:=by
    have:=pg hn.1
    unfold gera at this ⊢;rw[cJ ce,this]
   rw[e3]
  ·have e2:(k == q)=false:=by rw[beq_eq_false_iff_ne];exact e
   rw[e2] at h;have ih:=nv hn.2 h
   have e3:gera ((q,b)::m) k=(q,b)::gera m k:=by
    unfold gera;rw[cI (by simp;exact fun x=>e x.symm)]
   rw[e3];exact(List.Perm.cons _ ih).trans (List.Perm.swap _ _ _)
def vE{k:κ}{a:α}:∀m:List (κ×α),gera (m.map fun p=>if p.1=k then(k,a) else p) k=gera m k
 | []=>rfl
 | p::m=>by
  have ih:=vE (k:=k) (a:=a) m;unfold gera at ih ⊢;simp only[bL];by_cases e:p.1=k
  ·rw[if_pos e,cJ ce,cJ (by simp[e]),ih]
  ·rw[if_neg e,cI (by simp[e]),cI (by simp[e]),ih]
def Gd{m:List (κ×α)}{k:κ}{a:α}(hn:(m.map (·.1)).Nodup):(gins m k a).Perm ((k,a)::gera m k):=by
 have h1:=nv (m:=gins m k a) (k:=k) (a:=a) (mq hn) (by rw[kc,if_pos rfl])
 have h2:gera (gins m k a) k=gera m k:=by
  unfold gins;split
  ·exact vE m
  ·unfold gera;rw[dm];simp
 rw[h2] at h1;exact h1
end
def ge(p:Int×Stk):HP:=osl aj 3 tLot p.2.ad p.2.cap p.2.lots
def fK(m:List (Int×Stk))(f:Int):Stk:=(glk m f).getD ⟨none,0,[]⟩
def rX{m:List (Int×Stk)}{f:Int}(hn:(m.map (·.1)).Nodup){L:LH}:Ent (bigO ge m::L) (osl aj 3 tLot (fK m f).ad (fK m f).cap (fK m f).lots::bigO ge (gera m f)::L):=by
 unfold fK;cases h:glk m f with
 | none =>
  rw[pg (nh h)];exact Ent.d8 aj 3 tLot
 | some a=>exact(Ent.l8 (nv hn h)).trans Ent.bigO_uncons
def wS{m:List (Int×Stk)}{f:Int}(hn:(m.map (·.1)).Nodup){L:LH}:Ent (osl aj 3 tLot (fK m f).ad (fK m f).cap (fK m f).lots::bigO ge (gera m f)::L) (bigO ge m::L):=by
 unfold fK;cases h:glk m f with
 | none =>
  rw[pg (nh h)];exact Ent.drop
 | some a=>exact(Ent.l9 (f:=ge) (x:=(f,a))).trans (Ent.l8 (nv hn h).symm)
def pT{m:List (Int×Stk)}{f:Int}(hn:(m.map (·.1)).Nodup)(s:Stk){L:LH}:Ent (osl aj 3 tLot s.ad s.cap s.lots::bigO ge (gera m f)::L) (bigO ge (gins m f s)::L) :=
 (Ent.l9 (f:=ge) (x:=(f,s))).trans (Ent.l8 (Gd hn).symm)
def qT(m:List (Int×Stk))(f:Int):((glk m f).map Stk.v).getD (ah none 0 0)=ah (fK m f).ad (fK m f).lots.length (fK m f).cap:=by
 unfold fK;cases glk m f<;>rfl
def oD(m:List (Int×Stk))(f g:Int)(s:Stk):fK (gins m f s) g=if g=f then s else fK m g:=by
 unfold fK;rw[kc];split<;>rfl
def stkI(p:Int×Stk):HP:=isl aj 3 p.2.ad p.2.lots
def Iq(m:List (Int×Stk)){L:LH}:Ent (bigO ge m::L) (allP stkI m::L):=Ent.m7 (fun _=>bM _ _ _ _) (fun _ _=>Ent.freezeSl) m L
def Ip(m:List (Int×Stk))(f:Int){L:LH}:Ent (allP stkI m::L) (isl aj 3 (fK m f).ad (fK m f).lots::allP stkI m::L):=by
 unfold fK;cases h:glk m f with
 | none=>exact(Ent.d8 aj 3 tLot).trans Ent.freezeSl
 | some a=>exact Ent.e7 (f:=stkI) (ji h)
end
section
open Go.V
attribute [local irreducible] G GO GP GPW GPK Ev Ef EfR Ent CB GB V.Enters
def lR(items:Int)(m:MvM):Prop:=(0≤m.item∧m.item<items)∧(1≤m.n∧m.n≤1099511627776)∧0≤m.frm∧0≤m.to
instance (items:Int)(m:MvM):Decidable (lR items m):=by unfold lR;infer_instance
def rF{L:LH}(items:Int)(m:MvV):Tri ai 52 #[ac items,aO (aL m)] L (rtQ (.bool (dB (lR items m.m))) L):=by
 obtain⟨⟨frm,to,item,n,parts⟩,pad,pcap⟩:=m;have a0:∀{p:Prop},¬p→(lR items ⟨frm,to,item,n,parts⟩→p)→dB (lR items ⟨frm,to,item,n,parts⟩)=false:=fun h q=>aH (fun r=>h (q r));refine Tri.bd (args:=[ac items,aO (aL ⟨⟨frm,to,item,n,parts⟩,pad,pcap⟩)]) ?_;simp only[aL];by_cases h1:0≤item
 case neg =>
  refine JM ?_;intros;exact KX.d7 an ag ⟨by rw[a0 h1 (fun h=>h.1.1)];rfl,rfl⟩
 by_cases h2:item<items
 case neg =>
  refine JM ?_;intros;exact KX.d7 an ag ⟨by rw[a0 h2 (fun h=>h.1.2)];rfl,rfl⟩
 by_cases h3:1≤n
 case neg =>
  refine JM ?_;intros;exact KX.d7 an ag ⟨by rw[a0 h3 (fun h=>h.2.1.1)];rfl,rfl⟩
 by_cases h4:n≤1099511627776
 case neg =>
  refine JM ?_;intros;exact KX.d7 an ag ⟨by rw[a0 h4 (fun h=>h.2.1.2)];rfl,rfl⟩
 by_cases h5:0≤frm
 case neg =>
  refine JM ?_;intros;exact KX.d7 an ag ⟨by rw[a0 h5 (fun h=>h.2.2.1)];rfl,rfl⟩
 refine JM ?_;intros;refine KX.d7 an ag ⟨?_,rfl⟩;by_cases h6:0≤to
 ·rw[aU (show to ≥ 0 from h6),aU (show lR items ⟨frm,to,item,n,parts⟩ from⟨⟨h1,h2⟩,⟨h3,h4⟩,h5,h6⟩)];rfl
 ·rw[aH (show ¬to ≥ 0 from h6),a0 h6 (fun h=>h.2.2.2)];rfl
def chgT(s:Int):Int×Int:=if s<0 then(0,10) else if 1099511627776<s then(0,4) else(s,0)
def qL{L:LH}(n b:Int)(h1 : -9223372036854775808≤n+b)(h2:n+b≤9223372036854775807):Tri ai 53 #[ac n,ac b] L (rtQ (.tuple #[ac (chgT (n+b)).1,ac (chgT (n+b)).2]) L):=by
 unfold chgT;refine Tri.bd ?_;by_cases c1:n+b<0
 ·refine JM ?_;intros;exact KX.d7 an ag ⟨by rw[if_pos c1];rfl,rfl⟩
 by_cases c2:1099511627776<n+b
 ·refine JM ?_;intros;exact KX.d7 an ag ⟨by rw[if_neg c1,if_pos c2];rfl,rfl⟩
 refine JM ?_;intros;exact KX.d7 an ag ⟨by rw[if_neg c1,if_neg c2];rfl,rfl⟩
def byT(m:MvM):Int:=(if m.frm=0 then m.n else 0) - (if m.to=0 then m.n else 0)
def kK(items:Int)(t:List Int)(m:MvM):Int×List Int :=
 if ¬lR items m then(1,t) else if(chgT (t[m.item.toNat]! + byT m)).2=0 then(0,t.set m.item.toNat (chgT (t[m.item.toNat]! + byT m)).1) else((chgT (t[m.item.toNat]! + byT m)).2,t)
def totF(items:Int):List MvM→List Int→Int×List Int
 | [],t=>(0,t)
 | m::ms,t=>if(kK items t m).1=0 then totF items ms (kK items t m).2 else((kK items t m).1,t)
def fO(ss:List StV):List MvM:=ss.flatMap (fun s=>s.moves.map MvV.m)
def resT(items:Int)(ss:List StV):Int×List Int :=
 if ¬(0≤items∧items≤64) then(1,[]) else if(totF items (fO ss) (List.replicate items.toNat 0)).1=0 then totF items (fO ss) (List.replicate items.toNat 0) else((totF items (fO ss) (List.replicate items.toNat 0)).1,[])
structure TotI (items:Int) (t:List Int):Prop where
 len:t.length=items.toNat
 bd:∀i,i<t.length→0≤t[i]!∧t[i]!≤1099511627776
def uT{s:Int}(h:(chgT s).2=0):(chgT s).1=s∧0≤s∧s≤1099511627776:=by
 unfold chgT at h ⊢;by_cases h1:s<0
 ·rw[if_pos h1] at h;exact absurd (show(10:Int)=0 from h) ae
 ·rw[if_neg h1] at h ⊢;by_cases h2:1099511627776<s
  ·rw[if_pos h2] at h;exact absurd (show(4:Int)=0 from h) ae
  ·rw[if_neg h2];exact⟨rfl,ab,ab⟩
def TotI.set{items:Int}{t:List Int}(h:TotI items t){k:Nat}{s:Int}(hs:(chgT s).2=0):TotI items (t.set k (chgT s).1):=by
 obtain⟨e,b1,b2⟩:=uT hs;refine⟨by rw[bh];exact h.len,fun i hi=>?_⟩;rw[bh] at hi;rw[e,getElem!_of (by rw[bh];exact hi),cP];split
 ·exact⟨b1,b2⟩
 ·have:=h.bd i hi
  rw[getElem!_of hi] at this;exact this
def tot0(items:Int):TotI items (List.replicate items.toNat 0):=⟨List.length_replicate,fun i hi=>by
 rw[getElem!_of hi,List.getElem_replicate];decide⟩
def pU{ss:List StV}{i:Nat}(h:i<ss.length){L:LH}:Ent (allP cH ss::L) (isl aL 5 ss[i]!.mad ss[i]!.moves::stP ss[i]!::allP cH ss::L):=(Ent.e7 (f:=cH) (aJ h)).trans Ent.andE
def Fa{items:Int}{m:MvM}{ms:List MvM}{t:List Int}:totF items (m::ms) t=if(kK items t m).1=0 then totF items ms (kK items t m).2 else((kK items t m).1,t):=rfl
def tL(s:StV)(ss:List StV):fO (s::ss)=s.moves.map MvV.m++fO ss:=bI
def yb{s:StV}{ss:List StV}{j:Nat}(h:j<s.moves.length):(s.moves.drop j).map MvV.m++fO ss=s.moves[j]!.m::((s.moves.drop (j+1)).map MvV.m++fO ss):=by
 rw[ej h];rfl
def vY{L:LH}(items:Int)(ad:OA)(n c:Nat)(ss:List StV)[hr:Rds L ad StV aN 7 ss](hn:n=ss.length)(hl:ss.length≤1000000)(hm:∀s∈ss,s.moves.length≤1000000) :
  Tri ai 17 #[ac items,ah ad n c] (allP cH ss::L) (fun v L'=>∃a9 a3,v=.tuple #[ah a9 (resT items ss).2.length a3,ac (resT items ss).1]∧L' = osl (encZ .i64) 1 tInt a9 a3 (resT items ss).2::allP cH ss::L):=by
 subst hn;refine Tri.bd ?_;by_cases c1:0≤items
 case neg =>
  have e:resT items ss=(1,[]):=if_pos (fun q=>c1 q.1);rw[e];refine JM ?_;intros;exact KX.d7 an (Ent.d8 (encZ .i64) 1 tInt) ⟨none,0,rfl,rfl⟩
 by_cases c2:items≤64
 case neg =>
  have e:resT items ss=(1,[]):=if_pos (fun q=>c2 q.2);rw[e];refine JM ?_;intros;exact KX.d7 an (Ent.d8 (encZ .i64) 1 tInt) ⟨none,0,rfl,rfl⟩
 have e:resT items ss=if(totF items (fO ss) (List.replicate items.toNat 0)).1=0 then totF items (fO ss) (List.replicate items.toNat 0) else((totF items (fO ss) (List.replicate items.toNat 0)).1,[]):=if_neg (fun q=>q ⟨c1,c2⟩);rw[e];have b1:=tot0 items;generalize htt:List.replicate items.toNat (0:Int)=t0 at *;refine JM ?_;intros;refine GO.ef (Ef.makeSlice (encZ .i64) 0 rfl rfl rfl ab ab ab) ae ?_;rintro _ _⟨bt,rfl,rfl⟩;rw[htt];have b4:=b1.len;rw[←b4];refine JM ?_;intros;refine G.loop (α:=Nat×List Int) (fun g=>g.1≤ss.length∧TotI items g.2∧g.2.length=t0.length∧totF items (fO ss) t0=totF items (fO (ss.drop g.1)) g.2) (fun g=>[(0,ac items),(6,ah (some ⟨bt,0,none⟩) t0.length t0.length),(22,ah ad ss.length c),(23,ac ss.length),(24,ac (g.1:Int))]) (fun g=>osl (encZ .i64) 1 tInt (some ⟨bt,0,none⟩) t0.length g.2::allP cH ss::L) (fun g=>ss.length - g.1) (0,t0) ⟨ax _,b1,rfl,rfl⟩ av (Ent.refl _) ?_;rintro⟨i,t⟩ ⟨hi,a1,a2,a0⟩;dsimp only at hi a1 a2 a0 ⊢;by_cases a6:i<ss.length
 case neg =>
  have e0:ss.drop i=[]:=bG ab;rw[e0] at a0;have e1:totF items (fO ss) t0=(0,t):=a0;rw[e1,if_pos rfl];refine JM ?_;intros;exact KX.d7 an (Ent.refl _) ⟨some ⟨bt,0,none⟩,t0.length,by rw[a2];rfl,rfl⟩
 have b2:(i:Int).toNat=i:=aC i;have b7 : (i:Int).toNat<ss.length:=ab;have b9:=hm _ (aJ a6);rw[ej a6,tL] at a0;refine JM ?_;intros;refine G.ent (Ent.at (A:=allP cH ss) (pU a6)) ?_;rw[b2];generalize ss[i]! = s at *;refine G.loop (α:=Nat×List Int) (fun g=>g.1≤s.moves.length∧TotI items g.2∧g.2.length=t0.length∧totF items (fO ss) t0=totF items ((s.moves.drop g.1).map MvV.m++fO (ss.drop (i+1))) g.2) (fun g=>[(0,ac items),(6,ah (some ⟨bt,0,none⟩) t0.length t0.length),(22,ah ad ss.length c),(23,ac ss.length),(24,ac (i:Int)),(29,ah s.mad s.moves.length s.mcap),(30,ac s.moves.length),(31,ac (g.1:Int))]) (fun g=>isl aL 5 s.mad s.moves::osl (encZ .i64) 1 tInt (some ⟨bt,0,none⟩) t0.length g.2::allP cH ss::L) (fun g=>s.moves.length - g.1) (0,t) ⟨ax _,a1,a2,a0⟩ av ag ?_;clear a1 a2 a0;rintro⟨j,t⟩ ⟨hj,a1,a2,a0⟩;dsimp only at hj a1 a2 a0 ⊢;by_cases b5:j<s.moves.length
 case neg =>
  have e0:s.moves.drop j=[]:=bG ab;rw[e0] at a0;refine JM ?_;intros;refine⟨(i+1,t),⟨by dsimp only;omega,a1,a2,a0⟩,by dsimp only;omega,?_,by exact ag⟩;dsimp only;rw[aY i];exact av
 have b3:(j:Int).toNat=j:=aC j;have b6 : (j:Int).toNat<s.moves.length:=ab;rw[yb b5,Fa] at a0;refine JM ?_;intros;rw[b3];rename_i a4;generalize s.moves[j]! = m at *;refine GO.cr (rF items m) ?_;by_cases a5:lR items m.m
 case neg =>
  have es:kK items t m.m=(1,t):=if_pos a5;rw[es,if_neg (show ¬(1:Int)=0 by decide)] at a0;rw[aH a5,a0,if_neg (show ¬(1:Int)=0 by decide)];refine JM ?_;intros;exact KX.d7 an (Ent.trans ag (Ent.d8 (encZ .i64) 1 tInt)) ⟨none,0,rfl,rfl⟩
 have es:kK items t m.m=if(chgT (t[m.m.item.toNat]! + byT m.m)).2=0 then(0,t.set m.m.item.toNat (chgT (t[m.m.item.toNat]! + byT m.m)).1) else((chgT (t[m.m.item.toNat]! + byT m.m)).2,t):=if_neg (fun q=>q a5);obtain⟨⟨k1,k2⟩,⟨k3,k4⟩,k5,k6⟩:=a5;have b8:=a1.len;have b0:m.m.item.toNat<t.length:=ab;obtain⟨w1,w2⟩:=a1.bd _ b0;rw[aU ⟨⟨k1,k2⟩,⟨k3,k4⟩,k5,k6⟩];obtain⟨⟨frm,to,item,mn,parts⟩,pad,pcap⟩:=m;dsimp only at k1 k2 k3 k4 k5 k6 b0 w1 w2 es a0 ⊢;simp only[aL];repeat first|refine G.sm 13 ?_|refine bV ?_|intro
 refine G.d8 (α:=Unit) (fun _=>True) (fun _=>[(0,ac items),(6,ah (some ⟨bt,0,none⟩) t0.length t0.length),(22,ah ad ss.length c),(23,ac ss.length),(24,ac (i:Int)),(29,ah s.mad s.moves.length s.mcap),(30,ac s.moves.length),(31,ac (j:Int)),(10,ay a4),(11,ac (if frm=0 then mn else 0))]) (fun _=>obj a4 tMv [ac frm,ac to,ac item,ac mn,ah pad parts.length pcap]::isl aL 5 s.mad s.moves::osl (encZ .i64) 1 tInt (some ⟨bt,0,none⟩) t0.length t::allP cH ss::L) ?_ ?_
 ·by_cases c3:frm=0
  ·refine JM ?_;intros;refine⟨(),trivial,?_,by exact ag⟩;rw[if_pos c3,show 0+mn=mn by omega];exact av
  ·refine JM ?_;intros;refine⟨(),trivial,?_,by exact ag⟩;rw[if_neg c3];exact av
 rintro _ _;refine G.d8 (α:=Unit) (fun _=>True) (fun _=>[(0,ac items),(6,ah (some ⟨bt,0,none⟩) t0.length t0.length),(22,ah ad ss.length c),(23,ac ss.length),(24,ac (i:Int)),(29,ah s.mad s.moves.length s.mcap),(30,ac s.moves.length),(31,ac (j:Int)),(10,ay a4),(11,ac (byT ⟨frm,to,item,mn,parts⟩))]) (fun _=>obj a4 tMv [ac frm,ac to,ac item,ac mn,ah pad parts.length pcap]::isl aL 5 s.mad s.moves::osl (encZ .i64) 1 tInt (some ⟨bt,0,none⟩) t0.length t::allP cH ss::L) ?_ ?_
 ·have hb : -1099511627776≤(if frm=0 then mn else 0)∧(if frm=0 then mn else 0)≤1099511627776:=by split<;>omega
  have he:byT ⟨frm,to,item,mn,parts⟩=(if frm=0 then mn else 0) - (if to=0 then mn else 0):=rfl;generalize (if frm=0 then mn else 0)=x at *;by_cases c3:to=0
  ·rw[if_pos c3] at he;refine JM ?_;intros;refine⟨(),trivial,?_,by exact ag⟩;rw[he];exact av
  ·rw[if_neg c3] at he;refine JM ?_;intros;refine⟨(),trivial,?_,by exact ag⟩;rw[he,show x - 0=x by omega];exact av
 rintro _ _
 have hb : -1099511627776≤byT ⟨frm,to,item,mn,parts⟩∧byT ⟨frm,to,item,mn,parts⟩≤1099511627776:=by
  unfold byT;dsimp only;split<;>split<;>omega
 generalize byT ⟨frm,to,item,mn,parts⟩=x at *;refine JM ?_;intros;refine GO.cr (qL t[item.toNat]! x ab ab) ?_;by_cases hc:(chgT (t[item.toNat]! + x)).2=0
 case neg =>
  rw[if_neg hc] at es;rw[es,if_neg (show ¬(chgT (t[item.toNat]! + x)).2=0 from hc)] at a0;rw[a0,if_neg (show ¬(chgT (t[item.toNat]! + x)).2=0 from hc)];generalize (chgT (t[item.toNat]! + x)).2=ec at *;refine JM ?_;intros;exact KX.d7 an (Ent.trans ag (Ent.d8 (encZ .i64) 1 tInt)) ⟨none,0,rfl,rfl⟩
 rw[if_pos hc] at es;rw[es,if_pos rfl] at a0;have a7:=TotI.set a1 (k:=item.toNat) hc;have a8 : (t.set item.toNat (chgT (t[item.toNat]! + x)).1).length=t0.length:=by rw[bh];exact a2
 rw[hc];generalize (chgT (t[item.toNat]! + x)).1=y at *;refine JM ?_;intros;refine⟨(j+1,t.set item.toNat y),⟨by dsimp only;omega,a7,a8,a0⟩,by dsimp only;omega,?_,by exact ag⟩;dsimp only;rw[aY j];exact av
end
end Go.Proofs.YtommnllbflbdmaaGreatDoor
namespace Go.V
def nu{P:Program}{E:TypeId}(h:P.underlying E=some (.int .i64)):∀w,(isAgg E).run P w=.ok false w:=fun w=>by simp[isAgg,run_underlying h]
def xg{P:Program}{K E:Nat}[h:TyArr P K 2 E 1][he:TyInt P E .i64](a b:Int×Int)(w:World):(Op.equal K (kvP a) (kvP b)).run P w=.ok (decide (a=b)) w:=by
 have hE:=he.under;have hi:=h.size;cases hx:P.info? E with
 | none=>rw[hx] at hi;cases hi
 | some i =>
  have hc:P.cellsOf E=1:=by
   rw[hx] at hi;simp[Program.cellsOf,hx] at hi ⊢;exact hi
  obtain⟨a1,a2⟩:=a;obtain⟨b1,b2⟩:=b;have hq:=run_equalIn_array (P:=P) (w:=w) 9999 #[ac a1,ac a2] #[ac b1,ac b2] h.under hx;have e0:∀(c d:Int) (w:World),(part E #[Value.int .i64 c,Value.int .i64 d] 0).run P w=.ok (ac c) w:=fun c d w=>iK (nu hE) rfl;have e1:∀(c d:Int) (w:World),(part E #[Value.int .i64 c,Value.int .i64 d] 1).run P w=.ok (ac d) w:=fun c d w=>iK (nu hE) rfl;show(Op.equalIn (9999+1) K (.agg #[ac a1,ac a2]) (.agg #[ac b1,ac b2])).run P w=_;rw[hq,hc];have q:=fun c d=>run_equalIn_int (P:=P) w 9998 E .i64 .i64 c d hE;rw[show List.range 2=[0,1] from rfl];simp only[Op.eqItems,Sem.run_bind,Nat.zero_mul,Nat.one_mul,e0,e1,Result.andThen_ok,q];by_cases h1:a1=b1
  ·by_cases h2:a2=b2
   ·simp[h1,h2,e1,q]
   ·simp[h1,h2,e1,q]
  ·simp[h1]
theorem keyA{P:Program}{K E:Nat}[h:TyArr P K 2 E 1][he:TyInt P E .i64]:KeyT P K kvP where
 inj a b h:=by
  simp[kvP] at h;exact Prod.ext h.1 h.2
 check e k w:=by
  have hE:=he.under;have e0:∀(c d:Int) (w:World),(part E #[Value.int .i64 c,Value.int .i64 d] 0).run P w=.ok (ac c) w:=fun c d w=>iK (nu hE) rfl;have e1:∀(c d:Int) (w:World),(part E #[Value.int .i64 c,Value.int .i64 d] 1).run P w=.ok (ac d) w:=fun c d w=>iK (nu hE) rfl;have e2:∀(m:Nat) (c:Int) (w:World),(Instr.checkKey e (m+1) E (ac c)).run P w=.ok () w:=fun m c w=>by simp[Instr.checkKey,run_underlying hE]
  have a0:∀m,(Instr.checkKey e (m+1+1) K (.agg #[ac k.1,ac k.2])).run P w=.ok () w:=by
   intro m;rw[Instr.checkKey];simp only[Sem.run_bind,run_underlying h.under,Result.andThen_ok];simp[Std.Legacy.Range.forIn_eq_forIn_range',Std.Legacy.Range.size,List.range'_succ,h.sizeOf_run,e0,e1,e2]
  exact a0 9998
 bits k:=by
  have:∀n,Instr.sameBits (n+1) (kvP k) (kvP k)=true:=fun n=>by simp[Instr.sameBits,kvP]
  exact this 9999
 find k es ks w he':=by
  have hq:∀a b:Int×Int,(Op.equal K (kvP a) (kvP b)).run P w=.ok (decide (a=b)) w:=fun a b=>xg a b w;have h2:=lL (P:=P) (K:=K) (w:=w) hq k es ks 0 he';simp only[Instr.findKey,Sem.run_bind,run_underlying h.under,Result.andThen_ok];cases es with
  | nil =>
   cases ks with
   | nil=>simp[Instr.findNow]
   | cons _ _=>simp at he'
  | cons x es =>
   cases ks with
   | nil=>simp at he'
   | cons q ks =>
    have hn:Instr.findNow (.array 2 E) (kvP k) (x::es) 0=none:=by simp[Instr.findNow,Instr.sameNow]
    rw[hn];simp only[dl] at h2;exact h2
end Go.V
namespace Go.Proofs.YtommnllbflbdmaaGreatDoor
open Go.V
attribute [local irreducible] G GO GP GPW GPK Ev Ef EfR Ent CB GB V.Enters
instance keyA2:KeyT ai 116 kvP:=keyA
def gFn(m:List ((Int×Int)×Int))(a i:Int):Int:=(glk m (a,i)).getD 0
def updH(f:Int→Int→Int)(a i n:Int):Int→Int→Int:=fun x y=>if x=a∧y=i then n else f x y
def HB(m:List ((Int×Int)×Int))(a i n:Int):gFn (gins m (a,i) n)=updH (gFn m) a i n:=by
 funext x y;unfold gFn updH;rw[kc];by_cases h:x=a∧y=i
 ·rw[if_pos h,if_pos (by rw[h.1,h.2])];rfl
 ·rw[if_neg h,if_neg (fun e=>h (by simpa using e))]
def chgH(f:Int→Int→Int)(a i b:Int):Int×(Int→Int→Int) :=
 if a=0 then(0,f) else if(chgT (f a i+b)).2=0 then(0,updH f a i (chgT (f a i+b)).1) else((chgT (f a i+b)).2,f)
def kV(items:Int)(f:Int→Int→Int)(m:MvM):Int×(Int→Int→Int) :=
 if ¬lR items m then(1,f) else if(chgH f m.frm m.item (-m.n)).1=0 then chgH (chgH f m.frm m.item (-m.n)).2 m.to m.item m.n else((chgH f m.frm m.item (-m.n)).1,f)
def hldF(items:Int):List MvM→(Int→Int→Int)→Int×(Int→Int→Int)
 | [],f=>(0,f)
 | m::ms,f=>if(kV items f m).1=0 then hldF items ms (kV items f m).2 else((kV items f m).1,f)
def resH(items:Int)(ss:List StV):Int×(Int→Int→Int) :=
 if ¬(0≤items∧items≤64) then(1,fun _ _=>0) else hldF items (fO ss) (fun _ _=>0)
structure HldI (f:Int→Int→Int):Prop where
 bd:∀a i,0≤f a i∧f a i≤1099511627776
 zero:∀i,f 0 i=0
def HldI.upd{f:Int→Int→Int}(h:HldI f){a i n:Int}(ha:a≠0)(h1:0≤n)(h2:n≤1099511627776):HldI (updH f a i n):=by
 refine⟨fun x y=>?_,fun y=>?_⟩
 ·unfold updH;split
  ·exact⟨h1,h2⟩
  ·exact h.bd x y
 ·unfold updH;rw[if_neg (fun e=>ha e.1.symm)];exact h.zero y
def HldI.chg{f:Int→Int→Int}(h:HldI f){a i b:Int}:HldI (chgH f a i b).2:=by
 unfold chgH;by_cases ha:a=0
 ·rw[if_pos ha];exact h
 ·rw[if_neg ha];by_cases hc:(chgT (f a i+b)).2=0
  ·rw[if_pos hc];obtain⟨e,b1,b2⟩:=uT hc;exact h.upd ha (by rw[e];exact b1) (by rw[e];exact b2)
  ·rw[if_neg hc];exact h
def hld0:HldI (fun _ _=>0):=⟨fun _ _=>by decide,fun _=>rfl⟩
def FZ{items:Int}{m:MvM}{ms:List MvM}{f:Int→Int→Int}:hldF items (m::ms) f=if(kV items f m).1=0 then hldF items ms (kV items f m).2 else((kV items f m).1,f):=rfl
def rS{L:LH}(bc bm:Nat)(m:List ((Int×Int)×Int))(a i b:Int)(hm:HldI (gFn m))(hb : -1099511627776≤b∧b≤1099511627776) :
  Tri ai 55 #[ac a,ac i,ac b,ay bc] (obj bc 115 [.map (some bm)]::gmap kvP encN bm m::L) (fun v L'=>∃m',v=ac (chgH (gFn m) a i b).1∧(gFn m' = (chgH (gFn m) a i b).2∧m'.length≤m.length+1)∧L' = obj bc 115 [.map (some bm)]::gmap kvP encN bm m'::L):=by
 refine Tri.bd ?_;obtain⟨w1,w2⟩:=hm.bd a i;by_cases ha:a=0
 ·have e:chgH (gFn m) a i b=(0,gFn m):=if_pos ha;rw[e];refine JM ?_;intros;exact KX.d7 an (Ent.refl _) ⟨m,rfl,⟨rfl,ab⟩,rfl⟩
 have e:chgH (gFn m) a i b=if(chgT (gFn m a i+b)).2=0 then(0,updH (gFn m) a i (chgT (gFn m a i+b)).1) else((chgT (gFn m a i+b)).2,gFn m):=if_neg ha;rw[e];refine JM ?_;intros;refine GO.ev (Ev.n5 rfl rfl) ae ?_;refine GO.ev (Ev.e8 rfl rfl) ae ?_
 have hg:((glk m (a,i)).map encN).getD (ac 0)=ac (gFn m a i):=by
  unfold gFn;cases glk m (a,i)<;>rfl
 unfold glk at hg;rw[hg];refine JM ?_;intros;refine GO.cr (qL (gFn m a i) b ab ab) ?_;by_cases hc:(chgT (gFn m a i+b)).2=0
 case neg =>
  rw[if_neg hc];generalize (chgT (gFn m a i+b)).2=ec at *;generalize (chgT (gFn m a i+b)).1=en at *;refine JM ?_;intros;exact KX.d7 an (Ent.refl _) ⟨m,rfl,⟨rfl,ab⟩,rfl⟩
 rw[if_pos hc,hc];obtain⟨e1,e2,e3⟩:=uT hc;generalize (chgT (gFn m a i+b)).1=y at *;refine JM ?_;intros;refine GO.ev (Ev.n5 rfl rfl) ae ?_;refine JM ?_;intros;refine GO.efu (Ef.e8 (enc:=encN) (e:=y) rfl rfl rfl rfl) ?_;rintro _ _⟨rfl,rfl⟩;refine JM ?_;intros;refine KX.d7 an ?_ ⟨gins m (a,i) y,rfl,⟨HB m a i y,Hx m (a,i) y⟩,rfl⟩;exact ag
