/- Lemmas. -/
import Derived.Test.YtommnllbflbdmaaGreatDoorAbd
set_option linter.all false
set_option maxHeartbeats 2000000
namespace Go.Proofs.YtommnllbflbdmaaGreatDoor
section
open Go.V
attribute [local irreducible] G GO GP GPW GPK Ev Ef EfR Ent CB GB V.Enters
def ovP(x y:Lot):Prop:=x.2.1<y.2.1+y.2.2∧y.2.1<x.2.1+x.2.2
instance (x y:Lot):Decidable (ovP x y):=by unfold ovP;infer_instance
abbrev AR:List Stp:=[.ev 0,.ev 1,.ev 2,.ef 3,.ev 4,.ev 5,.ev 6,.ev 7,.ev 8,.ef 9,.ev 10,.ev 11,.ev 12]
def RG{φ ψ:Prop}(k:ψ)(h:Hid ψ→φ:=by intro k;(repeat (first|refine aa ?_|intro zzz|refine G.dr 16 1 AR ?_));(repeat revert zzz);exact Hid.out k):φ:=h ⟨k⟩
def uq{L:LH}(b:Nat)(x y:Lot)(hx:LotW x)(hy:LotW y):Tri ai 231 #[aN (aj y),ax b] (obj b tLot (aj x)::L) (fun v L'=>v=.bool (dB (ovP x y))∧L' = obj b tLot (aj x)::L):=by
 refine Tri.bd ?_;refine RG ?_;intros;refine GPW.cr (jh y hy) ?_;by_cases h1:x.2.1<y.2.1+y.2.2
 ·refine RG ?_;intros;refine GPW.cr (jh x hx) ?_;refine RG ?_;intros;refine KX.d7 al ?_ ⟨?_,rfl⟩
  ·exact ae
  ·by_cases h2:y.2.1<x.2.1+x.2.2
   ·rw[aS h2,aS (show ovP x y from⟨h1,h2⟩)];rfl
   ·rw[aG h2,aG (show ¬ovP x y from fun q=>h2 q.2)];rfl
 ·refine RG ?_;intros;rw[aG (show ¬ovP x y from fun q=>h1 q.1)];refine KX.d7 al ?_ ⟨rfl,rfl⟩;exact ae
def vY{C L:LH}(g:FuncId)(cap:LV)(p:Lot→Prop)[DecidablePred p](ad:OA)(n c:Nat)(xs:LL)[hr:Rds (C++L) ad Lot aj 3 xs](hn:n=xs.length)(hl:xs.length≤1000000)(hg:∀y∈xs,Tri ai g (([]++[Value.agg (aj y).toArray]++cap:LV)).toArray (C++L) (fun v L'=>v=.bool (dB (p y))∧L' = C++L)) :
  Tri ai 272 #[ah ad n c,.func (.func g) #[] cap.toArray] (C++L) (fun v L'=>∃i:Int,v=ac i∧((i = -1∧∀k,k<xs.length→¬p xs[k]!)∨∃k:Nat,i=k∧k<xs.length∧p xs[k]!∧∀j,j<k→¬p xs[j]!)∧L' = C++L):=by
 subst hn;refine Tri.bd ?_;refine Jq ?_;intros;refine G.loop (α:=Nat) (fun i=>i≤xs.length∧∀j,j<i→¬p xs[j]!) (fun i=>[(0,ah ad xs.length c),(1,.func (.func g) #[] cap.toArray),(7,ac (xs.length:Int)),(8,ac (i:Int))]) (fun _=>C++L) (fun i=>xs.length - i) 0 ⟨aw _,fun j hj=>by omega⟩ av (Ent.refl _) ?_;rintro i ⟨hi,hb⟩;by_cases a0:i<xs.length
 case neg =>
  obtain rfl:i=xs.length:=ab;refine Jq ?_;intros;exact KX.en ⟨-1,rfl,.inl ⟨rfl,hb⟩,rfl⟩
 have a1:(i:Int).toNat=i:=ab;refine Jq ?_;intros;rw[a1];refine GO.ef (Ef.d8 rfl rfl (hg xs[i]! (aI a0))) ag ?_;rintro _ _⟨rfl,rfl⟩;by_cases hp:p xs[i]!
 ·rw[aS hp];refine Jq ?_;intros;exact KX.en ⟨i,rfl,.inr ⟨i,rfl,a0,hp,hb⟩,rfl⟩
 ·rw[aG hp];refine Jq ?_;intros;refine⟨i+1,⟨ab,?_⟩,ab,?_,Ent.refl _⟩
  ·intro j hj;rcases cc j i with h|h
   ·exact hb j h
   ·obtain rfl:j=i:=ab;exact hp
  ·rw[aV i];exact av
def sG{C L:LH}(g:FuncId)(cap:LV)(p:Lot→Prop)[DecidablePred p](ad:OA)(n c:Nat)(xs:LL)[hr:Rds (C++L) ad Lot aj 3 xs](hn:n=xs.length)(hl:xs.length≤1000000)(hg:∀y∈xs,Tri ai g (([]++[Value.agg (aj y).toArray]++cap:LV)).toArray (C++L) (fun v L'=>v=.bool (dB (p y))∧L' = C++L)) :
  Tri ai 230 #[ah ad n c,.func (.func g) #[] cap.toArray] (C++L) (fun v L'=>v=.bool (dB (∃y∈xs,p y))∧L' = C++L):=by
 refine Tri.bd ?_;refine Jq ?_;intros;refine GO.ca (vY g cap p ad n c xs hn hl hg) ?_;rintro _ _⟨i,rfl,hi,rfl⟩;rcases hi with⟨rfl,a0⟩|⟨k,rfl,hk,hp,_⟩
 ·rw[aG (show ¬ ∃y∈xs,p y from fun⟨y,hy,hp⟩=>by
   obtain⟨k,hk,rfl⟩:=List.mem_iff_getElem.1 hy;have:=a0 k hk
   rw[getElem!_of hk] at this;exact this hp)]
  refine Jq ?_;intros;exact KX.d7 al (Ent.refl _) ⟨by rw[aG ab];rfl,rfl⟩
 ·rw[aS (show ∃y∈xs,p y from⟨_,aI hk,hp⟩)];refine Jq ?_;intros;exact KX.d7 al (Ent.refl _) ⟨by rw[aS ab];rfl,rfl⟩
def pF{L:LH}(ad:OA)(n c:Nat)(xs:LL)(x:Lot)[hr:Rds L ad Lot aj 3 xs](hn:n=xs.length)(hl:xs.length≤1000000)(a1:∀y∈xs,LotW y)(hx:LotW x) :
  Tri ai 143 #[ah ad n c,aN (aj x)] L (fun v L'=>v=.bool (dB (∃y∈xs,ovP x y))∧L' = L):=by
 refine Tri.bd ?_;refine Jq ?_;intros;rename_i b;have a2:Rds ([obj b tLot (aj x)]++L) ad Lot aj 3 xs:=(inferInstance:Rds (obj b tLot (aj x)::L) ad Lot aj 3 xs);refine GO.cr (sG (C:=[obj b tLot (aj x)]) 231 [ax b] (ovP x) ad n c xs hn hl (fun y hy=>uq b x y hx (a1 y hy))) ?_;refine Jq ?_;intros;exact KX.d7 al (show Ent (obj b tLot (aj x)::L) L by exact ae) ⟨rfl,rfl⟩
def ltV(x:Lot):LV:=[aN (aj x)]
def wA{L0:LH}(bx:Nat)(ad:OA)(c:Nat)(l:LL)[a5:Rds L0 ad Lot aj 3 l](hm:l.length≤1000000) :
  Iter ai 292 [ax bx] (l.map ltV) (obj bx fL [ah ad l.length c]::L0):=by
 intro i J Jx hy;rw[aA]
 have a3 : ∀k (hk:k<l.length),YTri ai i (ltV l[k]!) [J k] (fun v L'=>(v=.bool true∧L' = [J (k+1)])∨(v=.bool false∧L' = [Jx k])):=by
  intro k hk;have h:=hy k (by rw[aA];exact hk);rw[dR] at h;rw[getElem!_of hk];exact h
 clear hy;refine Tri.bd (args:=[.func (.yield i) #[] #[],ax bx]) ?_;refine Jq ?_;intros;refine G.loop (α:=Nat) (fun k=>k≤l.length) (fun k=>[(0,.func (.yield i) #[] #[]),(1,ax bx),(5,ah ad l.length c),(6,ac l.length),(7,ac (k:Int))]) (fun k=>J k::obj bx fL [ah ad l.length c]::L0) (fun k=>l.length - k) 0 (aw _) av (Ent.refl _) ?_;intro k hk;by_cases a1:k<l.length
 case neg =>
  have a0:k=l.length:=ab;refine Jq ?_;intros;refine KX.e7 al (Ent.refl _) (.inl ?_);rw[a0]
 have a2:=a3 k a1;have a4:(k:Int).toNat=k:=aC k;refine Jq ?_;intros;rw[a4];refine GO.ent Ent.swap ?_;((with_reducible apply GO.d7);refine GO.efR (EfR.yield (a2) rfl rfl cJ) ag ?_);rintro _ _⟨_,(⟨rfl,rfl⟩|⟨rfl,rfl⟩),hL⟩
 ·simp only[ao,an] at hL;subst hL;refine Jq ?_;intros;refine⟨k+1,ab,ab,?_,?_⟩
  ·rw[show(((k+1:Nat)):Int)=(k:Int)+1 by omega];exact av
  ·exact Ent.d7 Ent.drop
 ·simp only[ao,an] at hL;subst hL;refine Jq ?_;intros;exact KX.d7 al (Ent.d7 Ent.drop) (.inr ⟨k,rfl⟩)
def tY{L:LH}(bx:Nat)(ad:OA)(c:Nat)(l:LL)[a6:Rds L ad Lot aj 3 l](hm:l.length≤1000000) :
  Tri ai 308 #[ah none 0 0,.func (.func 292) #[] #[ax bx]] (obj bx fL [ah ad l.length c]::L) (fun v L'=>∃a2 a1,v=ah a2 l.length a1∧L' = osl aj 3 tLot a2 a1 l::obj bx fL [ah ad l.length c]::L):=by
 refine Tri.bd ?_;refine Jq ?_;intros;rename_i b2;refine G.rangeFunc (wA (L0:=L) bx ad c l hm) rfl en292.1 ag (by intro vs a5;obtain⟨r,_,rfl⟩:=List.mem_map.1 a5;rfl) (fun k=>[stkO b2 (l.take k)]) ?_ ?_ ?_
 ·simp only[ao,an,bH];refine Ent.trans ?_ (Ent.j0 (none,0) (f:=stkA b2 []) (Ent.refl _));simp only[stkA,cQ,ao,an];refine Ent.trans (Ent.d8 aj 3 tLot) ?_;exact ae
 ·intro k hk;rw[aA] at hk;rw[dR];have a4:l.take (k+1)=l.take k++[l[k]]:=aD hk;rw[a4];have a3:(l.take k).length≤1000000:=by rw[bG];omega
  generalize l.take k=T at a3;generalize l[k]=x;show G _ _ _ ((7,aN (aj x))::_) _ _;refine G.e7 (f:=stkA b2 T) ?_;rintro⟨a7,c1⟩;simp only[stkA,ao,an];refine Jq ?_;intros;refine GO.ef (Ef.d7 (enc:=aj) (e:=x) rfl rfl rfl rfl rfl aK (co _) ab ab) ag ?_;rintro _ _⟨ad2,a0,rfl,rfl⟩;refine Jq ?_;intros;refine KX.round ?_;refine Ent.trans ?_ (Ent.j0 (ad2,a0) (f:=stkA b2 (T++[x])) (Ent.refl _));simp only[stkA,ao,an];exact ae
 rw[aA,bu];simp only[ao,an];refine KX.d8 ?_;refine Jq ?_;intros;refine GO.g9 (f:=stkA b2 l) ?_;rintro⟨ad2,a0⟩;simp only[stkA,ao,an];refine Jq ?_;intros;refine KX.d7 al ?_ ⟨ad2,a0,rfl,rfl⟩;exact ae
def wa{L:LH}(bx:Nat)(ad:OA)(c:Nat)(l:LL)[a3:Rds L ad Lot aj 3 l](hm:l.length≤1000000) :
  Tri ai 291 #[.func (.func 292) #[] #[ax bx]] (obj bx fL [ah ad l.length c]::L) (fun v L'=>∃a1 a0,v=ah a1 l.length a0∧L' = osl aj 3 tLot a1 a0 l::obj bx fL [ah ad l.length c]::L):=by
 refine Tri.bd ?_;refine Jq ?_;intros;refine GO.ca (tY bx ad c l hm) ?_;rintro _ _⟨a2,c1,rfl,rfl⟩;refine Jq ?_;intros;exact KX.en ⟨a2,c1,rfl,rfl⟩
abbrev AQ:=ay3 [.ev 5,.ev 6,.ev 7,.ev 8,.ef 4,.ef 9,.ef 10,.ef 11,.ev 12]
def RK{φ ψ:Prop}(k:ψ)(h:Hid ψ→φ:=by intro k;(repeat (first|refine aa ?_|intro zzz|refine G.dr 17 1 AQ ?_));(repeat revert zzz);exact Hid.out k):φ:=h ⟨k⟩
def yI{L:LH}(x y:Lot):Tri ai 275 #[aN (aj x),aN (aj y)] L (fun v L'=>v=ac (hdC x y)∧L' = L):=by
 refine Tri.bd ?_;refine RK ?_;intros;refine GPW.cr (iy x.1 y.1) ?_;refine RK ?_;intros;refine GPW.cr (iy x.2.1 y.2.1) ?_;refine RK ?_;intros;rename_i bc;refine GPW.ent (Ent.f7 (enc:=encZ .i64) (sz:=1) (xs:=[cmpI x.1 y.1,cmpI x.2.1 y.2.1]) rfl rfl (fun _ _=>rfl) bZ) ?_;refine GPW.cr (lp (some ⟨bc,0,none⟩) 2 (cmpI x.1 y.1) (cmpI x.2.1 y.2.1)) ?_;refine RK ?_;intros;exact KX.en ⟨rfl,rfl⟩
def wI{E cap:Nat}{ad:OA}{xs:LL}(a0:xs.length<4611686018427387904) :
  Tri ai 282 #[ah ad xs.length cap,.func (.func 275) #[] #[]] [osl aj 3 E ad cap xs] (fun v L'=>v=.tuple #[]∧∃ys,ez hdC xs ys∧L' = [osl aj 3 E ad cap ys]) :=
 Tri.d7 (ρ:=Tryz.sortL_ren) Tryz.sortL (k:=3) Tryz.isAgg91 Tryz.sizeOf91 (fun _=>rfl) co (Lc:=[]) hdC qZ HH en275.1 (fun _ _ _=>trivial) (fun x y=>(yI (L:=[]) x y).mono (fun _ _ h=>h.1)) a0
def ul{L:LH}(bx:Nat)(ad:OA)(c:Nat)(l:LL)[a5:Rds L ad Lot aj 3 l](hm:l.length≤1000000) :
  Tri ai 273 #[.func (.func 292) #[] #[ax bx],.func (.func 275) #[] #[]] (obj bx fL [ah ad l.length c]::L) (fun v L'=>∃a1 a0 ys,v=ah a1 ys.length a0∧ez hdC l ys∧L' = osl aj 3 tLot a1 a0 ys::obj bx fL [ah ad l.length c]::L):=by
 refine Tri.bd ?_;refine Jq ?_;intros;refine GO.ca (wa bx ad c l hm) ?_;rintro _ _⟨a2,c1,rfl,rfl⟩;refine Jq ?_;intros;(first|refine GO.ef (Ef.call (wI (E:=tLot) (ad:=a2) (cap:=c1) (xs:=l) ab) rfl cJ) ag ?_);rintro _ _⟨_,⟨rfl,ys,a3,rfl⟩,hL⟩;simp only[ao,an] at hL;subst hL;have a4:=a3.1.length_eq;refine Jq ?_;intros;exact KX.d7 al (Ent.refl _) ⟨a2,c1,ys,by rw[a4];rfl,a3,rfl⟩
def wz{L:LH}(ad:OA)(n c:Nat) :
  Tri ai 274 #[ah ad n c] L (fun v L'=>∃bx,v=.func (.func 292) #[] #[ax bx]∧L' = obj bx fL [ah ad n c]::L):=by
 refine Tri.bd ?_;refine Jq ?_;intros;rename_i bx;exact KX.en ⟨bx,rfl,rfl⟩
def rO{L:LH}(ad:OA)(n c:Nat)(l:LL)[a4:Rds L ad Lot aj 3 l](hn:n=l.length)(hm:l.length≤1000000) :
  Tri ai 239 #[ah ad n c] L (fun v L'=>∃a1 a0 ys,v=ah a1 ys.length a0∧ez hdC l ys∧L' = osl aj 3 tLot a1 a0 ys::L):=by
 subst hn;refine Tri.bd ?_;refine Jq ?_;intros;refine GO.ca (wz ad l.length c) ?_;rintro _ _⟨bx,rfl,rfl⟩;refine Jq ?_;intros;refine GO.ca (ul bx ad c l hm) ?_;rintro _ _⟨a3,c1,ys,rfl,a2,rfl⟩;refine Jq ?_;intros;refine KX.d7 al ?_ ⟨a3,c1,ys,rfl,a2,rfl⟩;exact ae
instance (l:LL):Decidable (Apart l):=by unfold Apart apart;infer_instance
def fY(l:LL)(n:Int):Prop:=dM l∧Apart l∧lsum l=n
instance (l:LL)(n:Int):Decidable (fY l n):=by unfold fY;infer_instance
def partsA_iff{l:LL}{n:Int}:fY l n↔om l n:=by
 constructor
 ·rintro⟨h1,h2,h3⟩;exact⟨h1,h3,((mU h1.1).2 h2).trans h3⟩
 ·rintro⟨h1,h2,h3⟩;exact⟨h1,(mU h1.1).1 (h3.trans h2.symm),h2⟩
def Ew{x y:Lot}(h:apart x y):apart y x:=by unfold apart at *;omega
def Apart.perm{l m:LL}(h:Apart l)(p:m.Perm l):Apart m:=(p.pairwise_iff (fun {a b} q=>Ew q)).2 h
def nbr(ys:LL)(k:Nat):Prop:=∀i,i+1<k→¬(ys[i+1]!.1=ys[i]!.1∧ys[i+1]!.2.1<ys[i]!.2.1+ys[i]!.2.2)
def uk{ys:LL}(hs:ys.Pairwise (fun a b=>¬hdC b a<0)){i j:Nat}(h:i<j)(hj:j<ys.length):ys[i]!.1<ys[j]!.1∨(ys[i]!.1=ys[j]!.1∧ys[i]!.2.1≤ys[j]!.2.1):=by
 have:=(List.pairwise_iff_getElem.1 hs) i j ab hj h
 rw[ml] at this;unfold klt at this;rw[getElem!_of hj,getElem!_of ab];omega
def ve{ys:LL}(hs:ys.Pairwise (fun a b=>¬hdC b a<0))(hl:∀x∈ys,LotOk x)(hn:nbr ys ys.length){a:Nat}:∀b,a<b→b<ys.length→ys[a]!.1=ys[b]!.1→ys[a]!.2.1+ys[a]!.2.2≤ys[b]!.2.1
 | 0,h,_,_=>absurd h (cl a)
 | b+1,h,hb,e=>by
  have h1:=hn b hb;rcases cc a b with q|q
  ·have g1:=uk hs q ab;have g2:=uk hs (ab:b<b+1) hb;have e2:ys[a]!.1=ys[b]!.1:=ab;have ih:=ve hs hl hn b q ab e2;have a0:=hl _ (aI (ab:b<ys.length));unfold LotOk at a0;omega
  ·obtain rfl:a=b:=ab;omega
def Fv{l ys:LL}(h:ez hdC l ys)(hl:∀x∈l,LotOk x):nbr ys ys.length↔Apart l:=by
 have hy:∀x∈ys,LotOk x:=fun x hx=>hl x (h.1.mem_iff.1 hx);constructor
 ·intro hn;refine Apart.perm (m:=l) ?_ h.1.symm;refine List.pairwise_iff_getElem.2 (fun i j hi hj a0=>?_);have g:=ve h.2 hy hn j a0 hj;rw[getElem!_of hi,getElem!_of hj] at g;unfold apart;by_cases e:ys[i].1=ys[j].1
  ·exact .inr (.inl (g e))
  ·exact .inl e
 ·intro ha i hi;have hp:=(List.pairwise_iff_getElem.1 (Apart.perm ha h.1)) i (i+1) ab hi ab;rw[←getElem!_of hi,←getElem!_of ab] at hp;have g:=uk h.2 (ab:i<i+1) hi;have h1:=hy _ (aI (ab:i<ys.length));have h2:=hy _ (aI hi);unfold apart at hp;unfold LotOk at h1 h2;omega
abbrev xF:=ay8 [.ev 17,.ev 18,.ev 19,.ev 20,.ev 21,.ev 22,.ef 23,.ev 24,.ev 25]
def RO{φ ψ:Prop}(k:ψ)(h:Hid ψ→φ:=by intro k;(repeat (first|refine aa ?_|intro zzz|refine G.dr 87 15 xF ?_));(repeat revert zzz);exact Hid.out k):φ:=h ⟨k⟩
def kM{L:LH}(ad:OA)(n c:Nat)(xs:LL)(m:Int)[hr:Rds L ad Lot aj 3 xs](hn:n=xs.length)(hm:n≤9223372036854775807) :
  Tri ai 234 #[ah ad n c,ac m] L (fun v L'=>v=.bool (dB (fY xs m))∧L' = L):=by
 subst hn;refine Tri.bd ?_;by_cases h0:xs.length≤4096
 case neg =>
  refine RO ?_;intros;exact KX.d7 al (Ent.refl _) ⟨by rw[aG (show ¬fY xs m from fun q=>h0 q.1.2)];rfl,rfl⟩
 refine RO ?_;intros;refine G.loop (α:=Nat) (fun i=>i≤xs.length∧(∀k,k<i→LotOk xs[k]!)∧0≤lsum (xs.take i)∧lsum (xs.take i)≤(i:Int)*1099511627776) (fun i=>[(0,ah ad xs.length c),(1,ac m),(5,ac (lsum (xs.take i))),(13,ah ad xs.length c),(14,ac xs.length),(15,ac (i:Int))]) (fun _=>L) (fun i=>xs.length - i) 0 ⟨aw _,fun k hk=>absurd hk (cl k),bg _,bg _⟩ av (Ent.refl _) ?_;rintro i ⟨hi,a4,b8,b7⟩;by_cases a3:i<xs.length
 case pos =>
  have a2:(i:Int).toNat=i:=ab;have hs:=eJ xs a3;by_cases hp:LotOk xs[(i:Int).toNat]!
  ·have a9:=hp;unfold LotOk at a9
   have c0:1≤xs[i]!.2.2∧xs[i]!.2.2≤1099511627776:=by
    rw[a2] at a9;omega
   have c2:(i:Int)*1099511627776≤4096*1099511627776:=bV ab ag
   have b6:((i+1:Nat):Int)*1099511627776=(i:Int)*1099511627776+1099511627776:=by
    rw[Int.natCast_add,Int.add_mul];rfl
   refine RO ?_;intros;refine⟨i+1,⟨ab,fun k hk=>?_,by rw[hs];omega,by rw[hs,b6];omega⟩,ab,?_,by exact ae⟩
   ·by_cases e:k=i
    ·rw[e,←a2];exact hp
    ·exact a4 k ab
   ·rw[aV i,hs,show xs[i]! = xs[(i:Int).toNat]! by rw[a2]];exact av
  ·have a6:dB (fY xs m)=false:=aG (fun q=>hp (by rw[a2];exact q.1.1 _ (aI a3)));rw[a6];unfold LotOk at hp;by_cases p1:0≤xs[(i:Int).toNat]!.1
   case neg =>
    refine RO ?_;intros;exact KX.en ⟨rfl,rfl⟩
   by_cases p2:0≤xs[(i:Int).toNat]!.2.1
   case neg =>
    refine RO ?_;intros;exact KX.en ⟨rfl,rfl⟩
   by_cases p3:xs[(i:Int).toNat]!.2.1≤1099511627776
   case neg =>
    refine RO ?_;intros;exact KX.en ⟨rfl,rfl⟩
   by_cases p4:1≤xs[(i:Int).toNat]!.2.2
   case neg =>
    refine RO ?_;intros;exact KX.en ⟨rfl,rfl⟩
   refine RO ?_;intros;exact KX.en ⟨rfl,rfl⟩
 have a0:∀x∈xs,LotOk x:=fun x hx=>by
  obtain⟨k,hk,e⟩:=List.mem_iff_getElem.1 hx;have h2:=a4 k ab;rw[getElem!_of hk,e] at h2;exact h2
 obtain rfl:i=xs.length:=ab;rw[bu];refine RO ?_;intros;refine GO.ca (rO ad xs.length c xs rfl ab) ?_;rintro _ _⟨a7,c1,ys,rfl,a5,rfl⟩;have b9:=a5.1.length_eq;have b4:∀x∈ys,LotOk x:=fun x hx=>a0 x (a5.1.mem_iff.1 hx);have b0:=Fv a5 a0;refine RO ?_;intros;refine G.loop (α:=Nat) (fun i=>1≤i∧i≤ys.length+1∧nbr ys i) (fun i=>[(1,ac m),(5,ac (lsum xs)),(8,ah a7 ys.length c1),(9,ac (i:Int))]) (fun _=>osl aj 3 tLot a7 c1 ys::L) (fun i=>ys.length+1 - i) 1 ⟨aB _,ab,fun i hi=>by omega⟩ av (Ent.refl _) ?_;clear hi a4 b8 b7 a3;rintro i ⟨h1,hi,b1⟩;by_cases a3:i<ys.length
 case neg =>
  have b5:Apart xs:=b0.1 (fun k hk=>b1 k ab);refine RO ?_;intros;refine KX.d7 al ae ⟨?_,rfl⟩;by_cases he:lsum xs=m
  ·rw[aS he,aS (show fY xs m from⟨⟨a0,h0⟩,b5,he⟩)];rfl
  ·rw[aG he,aG (show ¬fY xs m from fun q=>he q.2.2)];rfl
 have a2:(i:Int).toNat=i:=ab;have a1:((i:Int) - 1).toNat=i - 1:=ab
 have hw:LotW ys[((i:Int) - 1).toNat]!:=by
  rw[a1];exact(b4 _ (aI ab)).w
 have b3 : (i:Int).toNat<ys.length:=ab;have b2:((i:Int) - 1).toNat<ys.length:=ab
 have a8:¬(ys[(i:Int).toNat]!.1=ys[((i:Int) - 1).toNat]!.1∧ys[(i:Int).toNat]!.2.1<ys[((i:Int) - 1).toNat]!.2.1+ys[((i:Int) - 1).toNat]!.2.2)→nbr ys (i+1):=fun q k hk=>by
  by_cases e:k+1<i
  ·exact b1 k e
  ·obtain rfl:k=i - 1:=ab;rw[a2,a1] at q;rw[show i - 1+1=i by omega];exact q
 by_cases e1:ys[(i:Int).toNat]!.1=ys[((i:Int) - 1).toNat]!.1
 ·refine RO ?_;intros;refine GPW.cr (jh ys[((i:Int) - 1).toNat]! hw) ?_;by_cases e2:ys[(i:Int).toNat]!.2.1<ys[((i:Int) - 1).toNat]!.2.1+ys[((i:Int) - 1).toNat]!.2.2
  ·have a6:dB (fY xs m)=false:=aG (fun q=>by
    have h3:=b0.2 q.2.1 (i - 1) ab;rw[a2,a1] at e1 e2;rw[show i - 1+1=i by omega] at h3;exact h3 ⟨e1,e2⟩)
   rw[a6];refine RO ?_;intros;exact KX.en ⟨rfl,rfl⟩
  ·refine RO ?_;intros;refine⟨i+1,⟨ab,ab,a8 (fun q=>e2 q.2)⟩,ab,?_,by exact ae⟩;rw[aV i];exact av
 ·refine RO ?_;intros;refine⟨i+1,⟨ab,ab,a8 (fun q=>e1 q.1)⟩,ab,?_,by exact ae⟩;rw[aV i];exact av
end
section
open Go.V
def BX{a b:LL}(p:a.Perm b)(t:Lot):OV a t=OV b t:=by
 induction p with
 | nil=>rfl
 | cons x p ih=>show ov x t+OV _ t=ov x t+OV _ t;rw[ih]
 | swap x y l=>show ov y t+(ov x t+OV l t)=ov x t+(ov y t+OV l t);omega
 | trans p1 p2 ih1 ih2=>exact ih1.trans ih2
def vh{a b:LL}(p:a.Perm b):lsum a=lsum b:=by
 induction p with
 | nil=>rfl
 | cons x p ih=>rw[gE,gE,ih]
 | swap x y l=>rw[gE,gE,gE,gE];omega
 | trans p1 p2 ih1 ih2=>exact ih1.trans ih2
def IA{a b:LL}(p:a.Perm b)(s:LL):OO a s=OO b s:=wn (fun t _=>BX p t)
def ofF_mem{ys:LL}{f:Int}{p:Lot}:p∈ofF ys f↔p∈ys∧p.1=f:=by
 unfold ofF;rw[List.mem_filter];simp
def BA{l ys:LL}(h:ez hdC l ys)(hl:∀x∈l,LotOk x)(ha:Apart l)(f:Int):Ord (ofF ys f):=by
 have hy:∀x∈ys,LotOk x:=fun x hx=>hl x (h.1.mem_iff.1 hx)
 have h2:(ofF ys f).Pairwise (fun a b=>¬hdC b a<0∧apart a b):=by
  have h3:ys.Pairwise (fun a b=>¬hdC b a<0∧apart a b):=List.pairwise_and_iff.2 ⟨h.2,Apart.perm ha h.1⟩;exact h3.sublist gP
 refine h2.imp_of_mem (fun {a b} hma hmb q=>?_);obtain⟨q1,q2⟩:=q;obtain⟨m1,e1⟩:=ofF_mem.1 hma;obtain⟨m2,e2⟩:=ofF_mem.1 hmb;have g1:=hy a m1;have g2:=hy b m2;rw[ml] at q1;unfold klt at q1;unfold apart at q2;unfold LotOk at g1 g2;omega
def uG{f:Int}:∀{ys l:LL},(∀x∈ys,LotOk x)→(∀z∈l,LotOk z∧z.1=f)→ys.foldl subL l=(ofF ys f).foldl subL l
 | [],_,_,_=>rfl
 | p::ys,l,h1,h2=>by
  have hp:=h1 p aq;have a0 : ∀x∈ys,LotOk x:=fun x hx=>h1 x (au _ hx);by_cases e:p.1=f
  ·have e2:ofF (p::ys) f=p::ofF ys f:=cF (by simpa using e);rw[e2];refine uG (ys:=ys) (l:=subL l p) a0 (fun z hz=>?_);obtain⟨y,hy,g1,g2,_⟩:=mN hp (fun z hz=>(h2 z hz).1) hz;exact⟨g1,g2.trans (h2 y hy).2⟩
  ·have e2:ofF (p::ys) f=ofF ys f:=cG (by simpa using e);rw[e2];show ys.foldl subL (subL l p)=_;rw[kP (fun z hz=>.inl (fun q=>e (q.symm.trans (h2 z hz).2)))];exact uG a0 h2
def Gp(t:Lot):∀ys:LL,OV ys t=OV (ofF ys t.1) t
 | []=>rfl
 | p::ys=>by
  have ih:=Gp t ys;by_cases e:p.1=t.1
  ·have e2:ofF (p::ys) t.1=p::ofF ys t.1:=cF (by simpa using e);rw[e2];show ov p t+OV ys t=ov p t+OV (ofF ys t.1) t;rw[ih]
  ·have e2:ofF (p::ys) t.1=ofF ys t.1:=cG (by simpa using e);rw[e2];show ov p t+OV ys t=_;rw[ih,show ov p t=0 from if_neg e];omega
def EK{l ys:LL}(h:ez hdC l ys)(hl:∀x∈l,LotOk x)(ha:Apart l){x:Lot}(hx:LotOk x)(s:LL×Int):wLot x (ofF ys x.1) s=((eM ys x).foldl aY s.1,s.2 - OV ys x):=by
 have hy:∀x∈ys,LotOk x:=fun x hx=>hl x (h.1.mem_iff.1 hx);have a0:=hx;unfold LotOk at a0;obtain⟨h1,h2⟩:=rP hx (ofF ys x.1) s.1 x.2.1 s.2 (BA h hl ha x.1) (fun p hp=>⟨hy p (ofF_mem.1 hp).1,(ofF_mem.1 hp).2⟩) (bg _) ab
 have e1:curL x x.2.1=[x]:=by
  unfold curL;rw[if_pos ab,show x.2.1+x.2.2 - x.2.1=x.2.2 by omega]
 rw[e1] at h1;rw[show x.2.1+x.2.2 - x.2.1=x.2.2 by omega] at h2;unfold wLot;rw[h1,h2];have e2:eM ys x=(ofF ys x.1).foldl subL [x]:=uG hy (fun z hz=>by rw[List.mem_singleton.1 hz];exact⟨hx,rfl⟩);rw[e2,Gp x ys]
def uQ{l ys:LL}(h:ez hdC l ys)(hl:∀x∈l,LotOk x)(ha:Apart l):∀(a0:LL) (s:LL×Int),(∀x∈a0,LotOk x)→wAll ys a0 s=(a0.foldl (fun out y=>(eM ys y).foldl aY out) s.1,s.2 - OO ys a0)
 | [],s,_=>by
  show s=(s.1,s.2 - 0);rw[show s.2 - 0=s.2 by omega]
 | x::a0,s,hs=>by
  show wAll ys a0 (wLot x (ofF ys x.1) s)=_;rw[EK h hl ha (hs x aq) s,uQ h hl ha a0 _ (fun z hz=>hs z (au _ hz))];show(_,s.2 - OV ys x - OO ys a0)=(_,s.2 - (OV ys x+OO ys a0));rw[show s.2 - OV ys x - OO ys a0=s.2 - (OV ys x+OO ys a0) by omega];rfl
def Gx{ps ys a0:LL}(h:ez hdC ps ys)(hp:∀x∈ps,LotOk x)(ha:Apart ps)(hs:∀x∈a0,LotOk x):wAll ys a0 ([],lsum ys)=(dP a0 ps,lsum ps - OO ps a0):=by
 rw[uQ h hp ha a0 _ hs,vh h.1,IA h.1];have e:a0.foldl (fun out y=>(eM ys y).foldl aY out) []=dP a0 ys:=rfl
 have e2:dP a0 ys=dP a0 ps:=by
  rw[oB,oB];rw[Ht h.1.symm hp ha hs]
 show(a0.foldl (fun out y=>(eM ys y).foldl aY out) [],_)=_;rw[e,e2]
def oz{ps own:LL}(h1:dM ps)(ha:Apart ps)(h2:dM own)(ho:Apart own):fF ps own↔lsum ps - OO ps own=0:=by
 have hs:=lD h1.1;have e1:lsum (gr ps own)=lsum (setL ps) - OO (setL ps) own:=nl hs.2 h2.1 ho;have hd:=(mU h1.1).2 ha;obtain⟨_,_,g3,_⟩:=lE h1.1 ps.length (aB _);rw[bu] at g3;have e3:OO (setL ps) own=OO ps own:=wn (fun t ht=>(g3 hd).2 t (h2.1 t ht));rw[hd,e3] at e1;have a0:=(kX h1.1 h2.1).1;constructor
 ·rintro⟨_,_,h3⟩;rw[h3,ir] at e1;exact e1.symm
 ·intro h;refine⟨h1,h2,?_⟩;rw[h] at e1;cases hm:gr ps own with
  | nil=>rfl
  | cons x l =>
   rw[hm] at e1 a0;have:=jk a0 (Nat.zero_lt_succ l.length)
   omega
end
end Go.Proofs.YtommnllbflbdmaaGreatDoor
namespace Go.V
def Ent.l9{α:Type}{f:α→HP}{l l' : List α}(h:l.Perm l'){L:LH}:Ent (bigO f l::L) (bigO f l'::L):=fun θ R w s=>by
 have s1:=Sat.ofStars (A:=l.map f) s;have s2:Sat θ (l'.map f++(L++R)) w:=s1.perm ((h.map f).append_right _);exact Sat.d7 (A:=l'.map f) s2
end Go.V
namespace Go.Proofs.YtommnllbflbdmaaGreatDoor
open Go.V
attribute [local irreducible] G GO GP GPW GPK Ev Ef EfR Ent CB GB V.Enters
section
variable {κ α:Type}[DecidableEq κ]
def pf:∀{m:List (κ×α)} {k:κ},k∉m.map (·.1)→gera m k=m
 | [],_,_=>rfl
 | p::m,k,h=>by
  simp only[bM,bj,not_or] at h;have e:(p.1 == k)=false:=by rw[beq_eq_false_iff_ne];exact fun x=>h.1 x.symm
  have ih:=pf (m:=m) (k:=k) h.2;unfold gera at ih ⊢;rw[cF (by rw[e];rfl),ih]
def ng:∀{m:List (κ×α)} {k:κ},glk m k=none→k∉m.map (·.1)
 | [],_,_=>by simp
 | p::m,k,h=>by
  obtain⟨q,a⟩:=p;unfold glk at h;rw[dw] at h;by_cases e:k=q
  ·subst e;simp at h
  ·have e2:(k == q)=false:=by rw[beq_eq_false_iff_ne];exact e
   rw[e2] at h;have:=ng (m:=m) (k:=k) h
   simp only[bM,bj,not_or];exact⟨e,this⟩
def nv:∀{m:List (κ×α)} {k:κ} {a:α},(m.map (·.1)).Nodup→glk m k=some a→m.Perm ((k,a)::gera m k)
 | [],_,_,_,h=>by cases h
 | p::m,k,a,hn,h=>by
  obtain⟨q,b⟩:=p;simp only[bM,dN] at hn;unfold glk at h;rw[dw] at h;by_cases e:k=q
  ·subst e;simp only[beq_self_eq_true] at h;obtain rfl:b=a:=by simpa using h
   have e3:gera ((k,b)::m) k=m:=by
    have:=pf hn.1
    unfold gera at this ⊢;rw[cG bZ,this]
   rw[e3]
  ·have e2:(k == q)=false:=by rw[beq_eq_false_iff_ne];exact e
   rw[e2] at h;have ih:=nv hn.2 h
   have e3:gera ((q,b)::m) k=(q,b)::gera m k:=by
    unfold gera;rw[cF (by simp;exact fun x=>e x.symm)]
   rw[e3];exact(List.Perm.cons _ ih).trans (List.Perm.swap _ _ _)
def vv{k:κ}{a:α}:∀m:List (κ×α),gera (m.map fun p=>if p.1=k then(k,a) else p) k=gera m k
 | []=>rfl
 | p::m=>by
  have ih:=vv (k:=k) (a:=a) m;unfold gera at ih ⊢;simp only[bM];by_cases e:p.1=k
  ·rw[if_pos e,cG bZ,cG (by simp[e]),ih]
  ·rw[if_neg e,cF (by simp[e]),cF (by simp[e]),ih]
def FM{m:List (κ×α)}{k:κ}{a:α}(hn:(m.map (·.1)).Nodup):(gins m k a).Perm ((k,a)::gera m k):=by
 have h1:=nv (m:=gins m k a) (k:=k) (a:=a) (mm hn) (by rw[ke,if_pos rfl])
 have h2:gera (gins m k a) k=gera m k:=by
  unfold gins;split
  ·exact vv m
  ·unfold gera;rw[du];simp
 rw[h2] at h1;exact h1
end
def gd(p:Int×Stk):HP:=osl aj 3 tLot p.2.ad p.2.cap p.2.lots
def fM(m:List (Int×Stk))(f:Int):Stk:=(glk m f).getD ⟨none,0,[]⟩
def rU{m:List (Int×Stk)}{f:Int}(hn:(m.map (·.1)).Nodup){L:LH}:Ent (bigO gd m::L) (osl aj 3 tLot (fM m f).ad (fM m f).cap (fM m f).lots::bigO gd (gera m f)::L):=by
 unfold fM;cases h:glk m f with
 | none =>
  rw[pf (ng h)];exact Ent.d8 aj 3 tLot
 | some a=>exact(Ent.l9 (nv hn h)).trans Ent.bigO_uncons
def wF{m:List (Int×Stk)}{f:Int}(hn:(m.map (·.1)).Nodup){L:LH}:Ent (osl aj 3 tLot (fM m f).ad (fM m f).cap (fM m f).lots::bigO gd (gera m f)::L) (bigO gd m::L):=by
 unfold fM;cases h:glk m f with
 | none =>
  rw[pf (ng h)];exact Ent.drop
 | some a=>exact(Ent.m6 (f:=gd) (x:=(f,a))).trans (Ent.l9 (nv hn h).symm)
def pQ{m:List (Int×Stk)}{f:Int}(hn:(m.map (·.1)).Nodup)(s:Stk){L:LH}:Ent (osl aj 3 tLot s.ad s.cap s.lots::bigO gd (gera m f)::L) (bigO gd (gins m f s)::L) :=
 (Ent.m6 (f:=gd) (x:=(f,s))).trans (Ent.l9 (FM hn).symm)
def qP(m:List (Int×Stk))(f:Int):((glk m f).map Stk.v).getD (ah none 0 0)=ah (fM m f).ad (fM m f).lots.length (fM m f).cap:=by
 unfold fM;cases glk m f<;>rfl
def oD(m:List (Int×Stk))(f g:Int)(s:Stk):fM (gins m f s) g=if g=f then s else fM m g:=by
 unfold fM;rw[ke];split<;>rfl
def stkI(p:Int×Stk):HP:=isl aj 3 p.2.ad p.2.lots
def HX(m:List (Int×Stk)){L:LH}:Ent (bigO gd m::L) (allP stkI m::L):=Ent.l7 (fun _=>bN _ _ _ _) (fun _ _=>Ent.freezeSl) m L
def HW(m:List (Int×Stk))(f:Int){L:LH}:Ent (allP stkI m::L) (isl aj 3 (fM m f).ad (fM m f).lots::allP stkI m::L):=by
 unfold fM;cases h:glk m f with
 | none=>exact(Ent.d8 aj 3 tLot).trans Ent.freezeSl
 | some a=>exact Ent.e7 (f:=stkI) (iS h)
