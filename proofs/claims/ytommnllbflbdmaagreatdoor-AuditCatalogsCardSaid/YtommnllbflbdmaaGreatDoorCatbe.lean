/- Lemmas. -/
import Derived.Test.YtommnllbflbdmaaGreatDoorCatbc
import Derived.ChangeKeysEq
set_option linter.all false
set_option maxHeartbeats 4000000
namespace Go.Proofs.YtommnllbflbdmaaGreatDoor
section
open Go.V
attribute [local irreducible] G GO GP GPW GPK Ev Ef EfR Ent CB GB V.Enters
def ovP(x y:Lot):Prop:=x.2.1<y.2.1+y.2.2∧y.2.1<x.2.1+x.2.2
instance (x y:Lot):Decidable (ovP x y):=by unfold ovP;infer_instance
abbrev zO:List Stp:=[.ev 0,.ev 1,.ev 2,.ef 3,.ev 4,.ev 5,.ev 6,.ev 7,.ev 8,.ef 9,.ev 10,.ev 11,.ev 12]
def Nn{φ ψ:Prop}(k:ψ)(h:Hid ψ→φ:=by intro k;(repeat (first|refine aa ?_|intro zzz|refine G.dr 16 1 zO ?_));(repeat revert zzz);exact Hid.out k):φ:=h ⟨k⟩
def tC{L:LH}(b:Nat)(x y:Lot)(hx:LotW x)(hy:LotW y):Tri ai 231 #[aN (ay y),aq b] (obj b tLot (ay x)::L) (rtQ (.bool (dB (ovP x y))) (obj b tLot (ay x)::L)):=by
 refine Tri.bd ?_;refine Nn ?_;intros;refine GPW.cr (jg y hy) ?_;by_cases h1:x.2.1<y.2.1+y.2.2
 ·refine Nn ?_;intros;refine GPW.cr (jg x hx) ?_;refine Nn ?_;intros;refine KX.d7 av ?_ ⟨?_,rfl⟩
  ·exact ah
  ·by_cases h2:y.2.1<x.2.1+x.2.2
   ·rw[aZ h2,aZ (show ovP x y from⟨h1,h2⟩)];rfl
   ·rw[aM h2,aM (show ¬ovP x y from fun q=>h2 q.2)];rfl
 ·refine Nn ?_;intros;rw[aM (show ¬ovP x y from fun q=>h1 q.1)];refine KX.d7 av ?_ ⟨rfl,rfl⟩;exact ah
def vi{C L:LH}(g:FuncId)(cap:LV)(p:Lot→Prop)[DecidablePred p](ad:OA)(n c:Nat)(xs:LL1)[hr:Rds (C++L) ad Lot ay 3 xs](hn:n=xs.length)(hl:xs.length≤1000000)(hg:∀y∈xs,Tri ai g (([]++[Value.agg (ay y).toArray]++cap:LV)).toArray (C++L) (rtQ (.bool (dB (p y))) (C++L))) :
  Tri ai 272 #[ae ad n c,.func (.func g) #[] cap.toArray] (C++L) (fun v L'=>∃i:Int,v=ac i∧((i = -1∧∀k,k<xs.length→¬p xs[k]!)∨∃k:Nat,i=k∧k<xs.length∧p xs[k]!∧∀j,j<k→¬p xs[j]!)∧L' = C++L):=by
 subst hn;refine Tri.bd ?_;refine IF ?_;intros;refine G.loop (α:=Nat) (fun i=>i≤xs.length∧∀j,j<i→¬p xs[j]!) (fun i=>[(0,ae ad xs.length c),(1,.func (.func g) #[] cap.toArray),(7,ac (xs.length:Int)),(8,ac (i:Int))]) (fun _=>C++L) (fun i=>xs.length - i) 0 ⟨az _,fun j hj=>by omega⟩ an (Ent.refl _) ?_;rintro i ⟨hi,hb⟩;by_cases a0:i<xs.length
 case neg =>
  obtain rfl:i=xs.length:=ab;refine IF ?_;intros;exact KX.en ⟨-1,rfl,.inl ⟨rfl,hb⟩,rfl⟩
 have a1:(i:Int).toNat=i:=ab;refine IF ?_;intros;rw[a1];refine GO.ef (Ef.d8 rfl rfl (hg xs[i]! (aL a0))) ag ?_;rintro _ _⟨rfl,rfl⟩;by_cases hp:p xs[i]!
 ·rw[aZ hp];refine IF ?_;intros;exact KX.en ⟨i,rfl,.inr ⟨i,rfl,a0,hp,hb⟩,rfl⟩
 ·rw[aM hp];refine IF ?_;intros;refine⟨i+1,⟨ab,?_⟩,ab,?_,Ent.refl _⟩
  ·intro j hj;rcases dl j i with h|h
   ·exact hb j h
   ·obtain rfl:j=i:=ab;exact hp
  ·rw[aU i];exact an
def rJ{C L:LH}(g:FuncId)(cap:LV)(p:Lot→Prop)[DecidablePred p](ad:OA)(n c:Nat)(xs:LL1)[hr:Rds (C++L) ad Lot ay 3 xs](hn:n=xs.length)(hl:xs.length≤1000000)(hg:∀y∈xs,Tri ai g (([]++[Value.agg (ay y).toArray]++cap:LV)).toArray (C++L) (rtQ (.bool (dB (p y))) (C++L))) :
  Tri ai 230 #[ae ad n c,.func (.func g) #[] cap.toArray] (C++L) (fun v L'=>v=.bool (dB (∃y∈xs,p y))∧L' = C++L):=by
 refine Tri.bd ?_;refine IF ?_;intros;refine GO.ca (vi g cap p ad n c xs hn hl hg) ?_;rintro _ _⟨i,rfl,hi,rfl⟩;rcases hi with⟨rfl,a0⟩|⟨k,rfl,hk,hp,_⟩
 ·rw[aM (show ¬ ∃y∈xs,p y from fun⟨y,hy,hp⟩=>by
   obtain⟨k,hk,rfl⟩:=List.mem_iff_getElem.1 hy;have:=a0 k hk
   rw[getElem!_of hk] at this;exact this hp)]
  refine IF ?_;intros;exact KX.d7 av (Ent.refl _) ⟨by rw[aM ab];rfl,rfl⟩
 ·rw[aZ (show ∃y∈xs,p y from⟨_,aL hk,hp⟩)];refine IF ?_;intros;exact KX.d7 av (Ent.refl _) ⟨by rw[aZ ab];rfl,rfl⟩
def oW{L:LH}(ad:OA)(n c:Nat)(xs:LL1)(x:Lot)[hr:Rds L ad Lot ay 3 xs](hn:n=xs.length)(hl:xs.length≤1000000)(a0:∀y∈xs,LotW y)(hx:LotW x) :
  Tri ai 143 #[ae ad n c,aN (ay x)] L (fun v L'=>v=.bool (dB (∃y∈xs,ovP x y))∧L' = L):=by
 refine Tri.bd ?_;refine IF ?_;intros;rename_i b;have a1:Rds ([obj b tLot (ay x)]++L) ad Lot ay 3 xs:=(inferInstance:Rds (obj b tLot (ay x)::L) ad Lot ay 3 xs);refine GO.cr (rJ (C:=[obj b tLot (ay x)]) 231 [aq b] (ovP x) ad n c xs hn hl (fun y hy=>tC b x y hx (a0 y hy))) ?_;refine IF ?_;intros;exact KX.d7 av (show Ent (obj b tLot (ay x)::L) L by exact ah) ⟨rfl,rfl⟩
def ltV(x:Lot):LV:=[aN (ay x)]
def vE{L0:LH}(bx:Nat)(ad:OA)(c:Nat)(l:LL1)[hrd:Rds L0 ad Lot ay 3 l](hm:l.length≤1000000) :
  Iter ai 292 [aq bx] (l.map ltV) (obj bx ft [ae ad l.length c]::L0):=by
 intro i J Jx hy;rw[aA]
 have a3 : ∀k (hk:k<l.length),YTri ai i (ltV l[k]!) [J k] (fun v L'=>(v=.bool true∧L' = [J (k+1)])∨(v=.bool false∧L' = [Jx k])):=by
  intro k hk;have h:=hy k (by rw[aA];exact hk);rw[dY] at h;rw[getElem!_of hk];exact h
 clear hy;refine Tri.bd (args:=[.func (.yield i) #[] #[],aq bx]) ?_;refine IF ?_;intros;refine G.loop (α:=Nat) (fun k=>k≤l.length) (fun k=>[(0,.func (.yield i) #[] #[]),(1,aq bx),(5,ae ad l.length c),(6,ac l.length),(7,ac (k:Int))]) (fun k=>J k::obj bx ft [ae ad l.length c]::L0) (fun k=>l.length - k) 0 (az _) an (Ent.refl _) ?_;intro k hk;by_cases a2:k<l.length
 case neg =>
  have a1:k=l.length:=ab;refine IF ?_;intros;refine KX.e7 av (Ent.refl _) (.inl ?_);rw[a1]
 have a4:=a3 k a2;have a0:(k:Int).toNat=k:=aD k;refine IF ?_;intros;rw[a0];refine GO.ent Ent.swap ?_;((with_reducible apply GO.d7);refine GO.efR (EfR.yield (a4) rfl rfl cT) ag ?_);rintro _ _⟨_,(⟨rfl,rfl⟩|⟨rfl,rfl⟩),hL⟩
 ·simp only[ak,aj] at hL;subst hL;refine IF ?_;intros;refine⟨k+1,ab,ab,?_,?_⟩
  ·rw[show(((k+1:Nat)):Int)=(k:Int)+1 by omega];exact an
  ·exact Ent.d7 Ent.drop
 ·simp only[ak,aj] at hL;subst hL;refine IF ?_;intros;exact KX.d7 av (Ent.d7 Ent.drop) (.inr ⟨k,rfl⟩)
def ta{L:LH}(bx:Nat)(ad:OA)(c:Nat)(l:LL1)[hrd:Rds L ad Lot ay 3 l](hm:l.length≤1000000) :
  Tri ai 308 #[ae none 0 0,.func (.func 292) #[] #[aq bx]] (obj bx ft [ae ad l.length c]::L) (fun v L'=>∃a3 a1,v=ae a3 l.length a1∧L' = osl ay 3 tLot a3 a1 l::obj bx ft [ae ad l.length c]::L):=by
 refine Tri.bd ?_;refine IF ?_;intros;rename_i b2;refine G.rangeFunc (vE (L0:=L) bx ad c l hm) rfl en292.1 ag (by intro vs a6;obtain⟨r,_,rfl⟩:=List.mem_map.1 a6;rfl) (fun k=>[stkO b2 (l.take k)]) ?_ ?_ ?_
 ·simp only[ak,aj,bC];refine Ent.trans ?_ (Ent.l7 (none,0) (f:=stkA b2 []) (Ent.refl _));simp only[stkA,cU,ak,aj];refine Ent.trans (Ent.d8 ay 3 tLot) ?_;exact ah
 ·intro k hk;rw[aA] at hk;rw[dY];have a4:l.take (k+1)=l.take k++[l[k]]:=aC hk;rw[a4];have a5:(l.take k).length≤1000000:=by rw[bg];omega
  generalize l.take k=T at a5;generalize l[k]=x;show G _ _ _ ((7,aN (ay x))::_) _ _;refine G.e7 (f:=stkA b2 T) ?_;rintro⟨a7,c1⟩;simp only[stkA,ak,aj];refine IF ?_;intros;refine GO.ef (Ef.d7 (enc:=ay) (e:=x) rfl rfl rfl rfl rfl aJ (dH _) ab ab) ag ?_;rintro _ _⟨a2,a0,rfl,rfl⟩;refine IF ?_;intros;refine KX.round ?_;refine Ent.trans ?_ (Ent.l7 (a2,a0) (f:=stkA b2 (T++[x])) (Ent.refl _));simp only[stkA,ak,aj];exact ah
 rw[aA,cd];simp only[ak,aj];refine KX.d8 ?_;refine IF ?_;intros;refine GO.l5 (f:=stkA b2 l) ?_;rintro⟨a2,a0⟩;simp only[stkA,ak,aj];refine IF ?_;intros;refine KX.d7 av ?_ ⟨a2,a0,rfl,rfl⟩;exact ah
def vj{L:LH}(bx:Nat)(ad:OA)(c:Nat)(l:LL1)[hrd:Rds L ad Lot ay 3 l](hm:l.length≤1000000) :
  Tri ai 291 #[.func (.func 292) #[] #[aq bx]] (obj bx ft [ae ad l.length c]::L) (fun v L'=>∃a1 a0,v=ae a1 l.length a0∧L' = osl ay 3 tLot a1 a0 l::obj bx ft [ae ad l.length c]::L):=by
 refine Tri.bd ?_;refine IF ?_;intros;refine GO.ca (ta bx ad c l hm) ?_;rintro _ _⟨a2,c1,rfl,rfl⟩;refine IF ?_;intros;exact KX.en ⟨a2,c1,rfl,rfl⟩
abbrev zN:=ar3 [.ev 5,.ev 6,.ev 7,.ev 8,.ef 4,.ef 9,.ef 10,.ef 11,.ev 12]
def Ns{φ ψ:Prop}(k:ψ)(h:Hid ψ→φ:=by intro k;(repeat (first|refine aa ?_|intro zzz|refine G.dr 17 1 zN ?_));(repeat revert zzz);exact Hid.out k):φ:=h ⟨k⟩
def xZ{L:LH}(x y:Lot):Tri ai 275 #[aN (ay x),aN (ay y)] L (rtQ (ac (hdC x y)) L):=by
 refine Tri.bd ?_;refine Ns ?_;intros;refine GPW.cr (jm x.1 y.1) ?_;refine Ns ?_;intros;refine GPW.cr (jm x.2.1 y.2.1) ?_;refine Ns ?_;intros;rename_i bc;refine GPW.ent (Ent.e9 (enc:=encZ .i64) (sz:=1) (xs:=[cmpI x.1 y.1,cmpI x.2.1 y.2.1]) rfl rfl (fun _ _=>rfl) bH) ?_;refine GPW.cr (mB (some ⟨bc,0,none⟩) 2 (cmpI x.1 y.1) (cmpI x.2.1 y.2.1)) ?_;refine Ns ?_;intros;exact KX.en ⟨rfl,rfl⟩
def vS{E cap:Nat}{ad:OA}{xs:LL1}(a0:xs.length<4611686018427387904) :
  Tri ai 282 #[ae ad xs.length cap,.func (.func 275) #[] #[]] [osl ay 3 E ad cap xs] (fun v L'=>v=.tuple #[]∧∃ys,eX hdC xs ys∧L' = [osl ay 3 E ad cap ys]) :=
 Tri.d7 (ρ:=Tryz.sortL_ren) Tryz.sortL (k:=3) Tryz.isAgg91 Tryz.sizeOf91 (fun _=>rfl) dH (Lc:=[]) hdC tN GM en275.1 (fun _ _ _=>trivial) (fun x y=>(xZ (L:=[]) x y).mono (fun _ _ h=>h.1)) a0
def tv{L:LH}(bx:Nat)(ad:OA)(c:Nat)(l:LL1)[hrd:Rds L ad Lot ay 3 l](hm:l.length≤1000000) :
  Tri ai 273 #[.func (.func 292) #[] #[aq bx],.func (.func 275) #[] #[]] (obj bx ft [ae ad l.length c]::L) (fun v L'=>∃a1 a0 ys,v=ae a1 ys.length a0∧eX hdC l ys∧L' = osl ay 3 tLot a1 a0 ys::obj bx ft [ae ad l.length c]::L):=by
 refine Tri.bd ?_;refine IF ?_;intros;refine GO.ca (vj bx ad c l hm) ?_;rintro _ _⟨a2,c1,rfl,rfl⟩;refine IF ?_;intros;(first|refine GO.ef (Ef.call (vS (E:=tLot) (ad:=a2) (cap:=c1) (xs:=l) ab) rfl cT) ag ?_);rintro _ _⟨_,⟨rfl,ys,a3,rfl⟩,hL⟩;simp only[ak,aj] at hL;subst hL;have a4:=a3.1.length_eq;refine IF ?_;intros;exact KX.d7 av (Ent.refl _) ⟨a2,c1,ys,by rw[a4];rfl,a3,rfl⟩
def vD{L:LH}(ad:OA)(n c:Nat) :
  Tri ai 274 #[ae ad n c] L (fun v L'=>∃bx,v=.func (.func 292) #[] #[aq bx]∧L' = obj bx ft [ae ad n c]::L):=by
 refine Tri.bd ?_;refine IF ?_;intros;rename_i bx;exact KX.en ⟨bx,rfl,rfl⟩
def rh{L:LH}(ad:OA)(n c:Nat)(l:LL1)[hrd:Rds L ad Lot ay 3 l](hn:n=l.length)(hm:l.length≤1000000) :
  Tri ai 239 #[ae ad n c] L (fun v L'=>∃a1 a0 ys,v=ae a1 ys.length a0∧eX hdC l ys∧L' = osl ay 3 tLot a1 a0 ys::L):=by
 subst hn;refine Tri.bd ?_;refine IF ?_;intros;refine GO.ca (vD ad l.length c) ?_;rintro _ _⟨bx,rfl,rfl⟩;refine IF ?_;intros;refine GO.ca (tv bx ad c l hm) ?_;rintro _ _⟨a2,c1,ys,rfl,a3,rfl⟩;refine IF ?_;intros;refine KX.d7 av ?_ ⟨a2,c1,ys,rfl,a3,rfl⟩;exact ah
instance (l:LL1):Decidable (Apart l):=by unfold Apart apart;infer_instance
def fI(l:LL1)(n:Int):Prop:=gm l∧Apart l∧lsum l=n
instance (l:LL1)(n:Int):Decidable (fI l n):=by unfold fI;infer_instance
def partsA_iff{l:LL1}{n:Int}:fI l n↔wS l n:=by
 constructor
 ·rintro⟨h1,h2,h3⟩;exact⟨h1,h3,((og h1.1).2 h2).trans h3⟩
 ·rintro⟨h1,h2,h3⟩;exact⟨h1,(og h1.1).1 (h3.trans h2.symm),h2⟩
def Dz{x y:Lot}(h:apart x y):apart y x:=by unfold apart at *;omega
def Apart.perm{l m:LL1}(h:Apart l)(p:m.Perm l):Apart m:=(p.pairwise_iff (fun {a b} q=>Dz q)).2 h
def nbr(ys:LL1)(k:Nat):Prop:=∀i,i+1<k→¬(ys[i+1]!.1=ys[i]!.1∧ys[i+1]!.2.1<ys[i]!.2.1+ys[i]!.2.2)
def tu{ys:LL1}(hs:ys.Pairwise (fun a b=>¬hdC b a<0)){i j:Nat}(h:i<j)(hj:j<ys.length):ys[i]!.1<ys[j]!.1∨(ys[i]!.1=ys[j]!.1∧ys[i]!.2.1≤ys[j]!.2.1):=by
 have:=(List.pairwise_iff_getElem.1 hs) i j ab hj h
 rw[mS] at this;unfold klt at this;rw[getElem!_of hj,getElem!_of ab];omega
def uq{ys:LL1}(hs:ys.Pairwise (fun a b=>¬hdC b a<0))(hl:∀x∈ys,LotOk x)(hn:nbr ys ys.length){a:Nat}:∀b,a<b→b<ys.length→ys[a]!.1=ys[b]!.1→ys[a]!.2.1+ys[a]!.2.2≤ys[b]!.2.1
 | 0,h,_,_=>absurd h (dU a)
 | b+1,h,hb,e=>by
  have h1:=hn b hb;rcases dl a b with q|q
  ·have g1:=tu hs q ab;have g2:=tu hs (ab:b<b+1) hb;have e2:ys[a]!.1=ys[b]!.1:=ab;have ih:=uq hs hl hn b q ab e2;have a0:=hl _ (aL (ab:b<ys.length));unfold LotOk at a0;omega
  ·obtain rfl:a=b:=ab;omega
def Et{l ys:LL1}(h:eX hdC l ys)(hl:∀x∈l,LotOk x):nbr ys ys.length↔Apart l:=by
 have hy:∀x∈ys,LotOk x:=fun x hx=>hl x (h.1.mem_iff.1 hx);constructor
 ·intro hn;refine Apart.perm (m:=l) ?_ h.1.symm;refine List.pairwise_iff_getElem.2 (fun i j hi hj a0=>?_);have g:=uq h.2 hy hn j a0 hj;rw[getElem!_of hi,getElem!_of hj] at g;unfold apart;by_cases e:ys[i].1=ys[j].1
  ·exact .inr (.inl (g e))
  ·exact .inl e
 ·intro ha i hi;have hp:=(List.pairwise_iff_getElem.1 (Apart.perm ha h.1)) i (i+1) ab hi ab;rw[←getElem!_of hi,←getElem!_of ab] at hp;have g:=tu h.2 (ab:i<i+1) hi;have h1:=hy _ (aL (ab:i<ys.length));have h2:=hy _ (aL hi);unfold apart at hp;unfold LotOk at h1 h2;omega
abbrev wO:=ar8 [.ev 17,.ev 18,.ev 19,.ev 20,.ev 21,.ev 22,.ef 23,.ev 24,.ev 25]
def Nw{φ ψ:Prop}(k:ψ)(h:Hid ψ→φ:=by intro k;(repeat (first|refine aa ?_|intro zzz|refine G.dr 87 15 wO ?_));(repeat revert zzz);exact Hid.out k):φ:=h ⟨k⟩
def kH{L:LH}(ad:OA)(n c:Nat)(xs:LL1)(m:Int)[hr:Rds L ad Lot ay 3 xs](hn:n=xs.length)(hm:n≤9223372036854775807) :
  Tri ai 234 #[ae ad n c,ac m] L (rtQ (.bool (dB (fI xs m))) L):=by
 subst hn;refine Tri.bd ?_;by_cases h0:xs.length≤4096
 case neg =>
  refine Nw ?_;intros;exact KX.d7 av (Ent.refl _) ⟨by rw[aM (show ¬fI xs m from fun q=>h0 q.1.2)];rfl,rfl⟩
 refine Nw ?_;intros;refine G.loop (α:=Nat) (fun i=>i≤xs.length∧(∀k,k<i→LotOk xs[k]!)∧0≤lsum (xs.take i)∧lsum (xs.take i)≤(i:Int)*1099511627776) (fun i=>[(0,ae ad xs.length c),(1,ac m),(5,ac (lsum (xs.take i))),(13,ae ad xs.length c),(14,ac xs.length),(15,ac (i:Int))]) (fun _=>L) (fun i=>xs.length - i) 0 ⟨az _,fun k hk=>absurd hk (dU k),bG _,bG _⟩ an (Ent.refl _) ?_;rintro i ⟨hi,a5,b3,b4⟩;by_cases a3:i<xs.length
 case pos =>
  have a1:(i:Int).toNat=i:=ab;have hs:=fC xs a3;by_cases hp:LotOk xs[(i:Int).toNat]!
  ·have b1:=hp;unfold LotOk at b1
   have c0:1≤xs[i]!.2.2∧xs[i]!.2.2≤1099511627776:=by
    rw[a1] at b1;omega
   have b9:(i:Int)*1099511627776≤4096*1099511627776:=cF ab ag
   have b7:((i+1:Nat):Int)*1099511627776=(i:Int)*1099511627776+1099511627776:=by
    rw[Int.natCast_add,Int.add_mul];rfl
   refine Nw ?_;intros;refine⟨i+1,⟨ab,fun k hk=>?_,by rw[hs];omega,by rw[hs,b7];omega⟩,ab,?_,by exact ah⟩
   ·by_cases e:k=i
    ·rw[e,←a1];exact hp
    ·exact a5 k ab
   ·rw[aU i,hs,show xs[i]! = xs[(i:Int).toNat]! by rw[a1]];exact an
  ·have a4:dB (fI xs m)=false:=aM (fun q=>hp (by rw[a1];exact q.1.1 _ (aL a3)));rw[a4];unfold LotOk at hp;by_cases p1:0≤xs[(i:Int).toNat]!.1
   case neg =>
    refine Nw ?_;intros;exact KX.en ⟨rfl,rfl⟩
   by_cases p2:0≤xs[(i:Int).toNat]!.2.1
   case neg =>
    refine Nw ?_;intros;exact KX.en ⟨rfl,rfl⟩
   by_cases p3:xs[(i:Int).toNat]!.2.1≤1099511627776
   case neg =>
    refine Nw ?_;intros;exact KX.en ⟨rfl,rfl⟩
   by_cases p4:1≤xs[(i:Int).toNat]!.2.2
   case neg =>
    refine Nw ?_;intros;exact KX.en ⟨rfl,rfl⟩
   refine Nw ?_;intros;exact KX.en ⟨rfl,rfl⟩
 have a0:∀x∈xs,LotOk x:=fun x hx=>by
  obtain⟨k,hk,e⟩:=List.mem_iff_getElem.1 hx;have h2:=a5 k ab;rw[getElem!_of hk,e] at h2;exact h2
 obtain rfl:i=xs.length:=ab;rw[cd];refine Nw ?_;intros;refine GO.ca (rh ad xs.length c xs rfl ab) ?_;rintro _ _⟨a7,c1,ys,rfl,a6,rfl⟩;have c2:=a6.1.length_eq;have b8:∀x∈ys,LotOk x:=fun x hx=>a0 x (a6.1.mem_iff.1 hx);have a8:=Et a6 a0;refine Nw ?_;intros;refine G.loop (α:=Nat) (fun i=>1≤i∧i≤ys.length+1∧nbr ys i) (fun i=>[(1,ac m),(5,ac (lsum xs)),(8,ae a7 ys.length c1),(9,ac (i:Int))]) (fun _=>osl ay 3 tLot a7 c1 ys::L) (fun i=>ys.length+1 - i) 1 ⟨aI _,ab,fun i hi=>by omega⟩ an (Ent.refl _) ?_;clear hi a5 b3 b4 a3;rintro i ⟨h1,hi,a9⟩;by_cases a3:i<ys.length
 case neg =>
  have b2:Apart xs:=a8.1 (fun k hk=>a9 k ab);refine Nw ?_;intros;refine KX.d7 av ah ⟨?_,rfl⟩;by_cases he:lsum xs=m
  ·rw[aZ he,aZ (show fI xs m from⟨⟨a0,h0⟩,b2,he⟩)];rfl
  ·rw[aM he,aM (show ¬fI xs m from fun q=>he q.2.2)];rfl
 have a1:(i:Int).toNat=i:=ab;have a2:((i:Int) - 1).toNat=i - 1:=ab
 have hw:LotW ys[((i:Int) - 1).toNat]!:=by
  rw[a2];exact(b8 _ (aL ab)).w
 have b5 : (i:Int).toNat<ys.length:=ab;have b6:((i:Int) - 1).toNat<ys.length:=ab
 have b0:¬(ys[(i:Int).toNat]!.1=ys[((i:Int) - 1).toNat]!.1∧ys[(i:Int).toNat]!.2.1<ys[((i:Int) - 1).toNat]!.2.1+ys[((i:Int) - 1).toNat]!.2.2)→nbr ys (i+1):=fun q k hk=>by
  by_cases e:k+1<i
  ·exact a9 k e
  ·obtain rfl:k=i - 1:=ab;rw[a1,a2] at q;rw[show i - 1+1=i by omega];exact q
 by_cases e1:ys[(i:Int).toNat]!.1=ys[((i:Int) - 1).toNat]!.1
 ·refine Nw ?_;intros;refine GPW.cr (jg ys[((i:Int) - 1).toNat]! hw) ?_;by_cases e2:ys[(i:Int).toNat]!.2.1<ys[((i:Int) - 1).toNat]!.2.1+ys[((i:Int) - 1).toNat]!.2.2
  ·have a4:dB (fI xs m)=false:=aM (fun q=>by
    have h3:=a8.2 q.2.1 (i - 1) ab;rw[a1,a2] at e1 e2;rw[show i - 1+1=i by omega] at h3;exact h3 ⟨e1,e2⟩)
   rw[a4];refine Nw ?_;intros;exact KX.en ⟨rfl,rfl⟩
  ·refine Nw ?_;intros;refine⟨i+1,⟨ab,ab,b0 (fun q=>e2 q.2)⟩,ab,?_,by exact ah⟩;rw[aU i];exact an
 ·refine Nw ?_;intros;refine⟨i+1,⟨ab,ab,b0 (fun q=>e1 q.1)⟩,ab,?_,by exact ah⟩;rw[aU i];exact an
end
section
open Go.V
def Bh{a b:LL1}(p:a.Perm b)(t:Lot):OV a t=OV b t:=by
 induction p with
 | nil=>rfl
 | cons x p ih=>show ov x t+OV _ t=ov x t+OV _ t;rw[ih]
 | swap x y l=>show ov y t+(ov x t+OV l t)=ov x t+(ov y t+OV l t);omega
 | trans p1 p2 ih1 ih2=>exact ih1.trans ih2
def ut{a b:LL1}(p:a.Perm b):lsum a=lsum b:=by
 induction p with
 | nil=>rfl
 | cons x p ih=>rw[gy,gy,ih]
 | swap x y l=>rw[gy,gy,gy,gy];omega
 | trans p1 p2 ih1 ih2=>exact ih1.trans ih2
def HI{a b:LL1}(p:a.Perm b)(s:LL1):OO a s=OO b s:=DC (fun t _=>Bh p t)
def ofF_mem{ys:LL1}{f:Int}{p:Lot}:p∈ofF ys f↔p∈ys∧p.1=f:=by
 unfold ofF;rw[List.mem_filter];simp
def AN{l ys:LL1}(h:eX hdC l ys)(hl:∀x∈l,LotOk x)(ha:Apart l)(f:Int):Ord (ofF ys f):=by
 have hy:∀x∈ys,LotOk x:=fun x hx=>hl x (h.1.mem_iff.1 hx)
 have h2:(ofF ys f).Pairwise (fun a b=>¬hdC b a<0∧apart a b):=by
  have h3:ys.Pairwise (fun a b=>¬hdC b a<0∧apart a b):=List.pairwise_and_iff.2 ⟨h.2,Apart.perm ha h.1⟩;exact h3.sublist gO
 refine h2.imp_of_mem (fun {a b} hma hmb q=>?_);obtain⟨q1,q2⟩:=q;obtain⟨m1,e1⟩:=ofF_mem.1 hma;obtain⟨m2,e2⟩:=ofF_mem.1 hmb;have g1:=hy a m1;have g2:=hy b m2;rw[mS] at q1;unfold klt at q1;unfold apart at q2;unfold LotOk at g1 g2;omega
def tS{f:Int}:∀{ys l:LL1},(∀x∈ys,LotOk x)→(∀z∈l,LotOk z∧z.1=f)→ys.foldl subL l=(ofF ys f).foldl subL l
 | [],_,_,_=>rfl
 | p::ys,l,h1,h2=>by
  have hp:=h1 p au;have a0 : ∀x∈ys,LotOk x:=fun x hx=>h1 x (aw _ hx);by_cases e:p.1=f
  ·have e2:ofF (p::ys) f=p::ofF ys f:=cO (by simpa using e);rw[e2];refine tS (ys:=ys) (l:=subL l p) a0 (fun z hz=>?_);obtain⟨y,hy,g1,g2,_⟩:=mG hp (fun z hz=>(h2 z hz).1) hz;exact⟨g1,g2.trans (h2 y hy).2⟩
  ·have e2:ofF (p::ys) f=ofF ys f:=cP (by simpa using e);rw[e2];show ys.foldl subL (subL l p)=_;rw[kL (fun z hz=>.inl (fun q=>e (q.symm.trans (h2 z hz).2)))];exact tS a0 h2
def Fu(t:Lot):∀ys:LL1,OV ys t=OV (ofF ys t.1) t
 | []=>rfl
 | p::ys=>by
  have ih:=Fu t ys;by_cases e:p.1=t.1
  ·have e2:ofF (p::ys) t.1=p::ofF ys t.1:=cO (by simpa using e);rw[e2];show ov p t+OV ys t=ov p t+OV (ofF ys t.1) t;rw[ih]
  ·have e2:ofF (p::ys) t.1=ofF ys t.1:=cP (by simpa using e);rw[e2];show ov p t+OV ys t=_;rw[ih,show ov p t=0 from if_neg e];omega
def DQ{l ys:LL1}(h:eX hdC l ys)(hl:∀x∈l,LotOk x)(ha:Apart l){x:Lot}(hx:LotOk x)(s:LL1×Int):wLot x (ofF ys x.1) s=((fP ys x).foldl ba s.1,s.2 - OV ys x):=by
 have hy:∀x∈ys,LotOk x:=fun x hx=>hl x (h.1.mem_iff.1 hx);have a0:=hx;unfold LotOk at a0;obtain⟨h1,h2⟩:=ri hx (ofF ys x.1) s.1 x.2.1 s.2 (AN h hl ha x.1) (fun p hp=>⟨hy p (ofF_mem.1 hp).1,(ofF_mem.1 hp).2⟩) (bG _) ab
 have e1:curL x x.2.1=[x]:=by
  unfold curL;rw[if_pos ab,show x.2.1+x.2.2 - x.2.1=x.2.2 by omega]
 rw[e1] at h1;rw[show x.2.1+x.2.2 - x.2.1=x.2.2 by omega] at h2;unfold wLot;rw[h1,h2];have e2:fP ys x=(ofF ys x.1).foldl subL [x]:=tS hy (fun z hz=>by rw[List.mem_singleton.1 hz];exact⟨hx,rfl⟩);rw[e2,Fu x ys]
def ua{l ys:LL1}(h:eX hdC l ys)(hl:∀x∈l,LotOk x)(ha:Apart l):∀(a0:LL1) (s:LL1×Int),(∀x∈a0,LotOk x)→wAll ys a0 s=(a0.foldl (fun out y=>(fP ys y).foldl ba out) s.1,s.2 - OO ys a0)
 | [],s,_=>by
  show s=(s.1,s.2 - 0);rw[show s.2 - 0=s.2 by omega]
 | x::a0,s,hs=>by
  show wAll ys a0 (wLot x (ofF ys x.1) s)=_;rw[DQ h hl ha (hs x au) s,ua h hl ha a0 _ (fun z hz=>hs z (aw _ hz))];show(_,s.2 - OV ys x - OO ys a0)=(_,s.2 - (OV ys x+OO ys a0));rw[show s.2 - OV ys x - OO ys a0=s.2 - (OV ys x+OO ys a0) by omega];rfl
def FC{ps ys a0:LL1}(h:eX hdC ps ys)(hp:∀x∈ps,LotOk x)(ha:Apart ps)(hs:∀x∈a0,LotOk x):wAll ys a0 ([],lsum ys)=(fq a0 ps,lsum ps - OO ps a0):=by
 rw[ua h hp ha a0 _ hs,ut h.1,HI h.1];have e:a0.foldl (fun out y=>(fP ys y).foldl ba out) []=fq a0 ys:=rfl
 have e2:fq a0 ys=fq a0 ps:=by
  rw[nW,nW];rw[Gu h.1.symm hp ha hs]
 show(a0.foldl (fun out y=>(fP ys y).foldl ba out) [],_)=_;rw[e,e2]
def nV{ps own:LL1}(h1:gm ps)(ha:Apart ps)(h2:gm own)(ho:Apart own):iy ps own↔lsum ps - OO ps own=0:=by
 have hs:=qr h1.1;have e1:lsum (jM ps own)=lsum (setL ps) - OO (setL ps) own:=tZ hs.2 h2.1 ho;have hd:=(og h1.1).2 ha;obtain⟨_,_,g3,_⟩:=mM h1.1 ps.length (aI _);rw[cd] at g3;have e3:OO (setL ps) own=OO ps own:=DC (fun t ht=>(g3 hd).2 t (h2.1 t ht));rw[hd,e3] at e1;have a0:=(pD h1.1 h2.1).1;constructor
 ·rintro⟨_,_,h3⟩;rw[h3,iC] at e1;exact e1.symm
 ·intro h;refine⟨h1,h2,?_⟩;rw[h] at e1;cases hm:jM ps own with
  | nil=>rfl
  | cons x l =>
   rw[hm] at e1 a0;have:=jO a0 (Nat.zero_lt_succ l.length)
   omega
end
end Go.Proofs.YtommnllbflbdmaaGreatDoor
namespace Go.V
def Ent.m7{α:Type}{f:α→HP}{l l' : List α}(h:l.Perm l'){L:LH}:Ent (bigO f l::L) (bigO f l'::L):=fun θ R w s=>by
 have s1:=Sat.ofStars (A:=l.map f) s;have s2:Sat θ (l'.map f++(L++R)) w:=s1.perm ((h.map f).append_right _);exact Sat.d7 (A:=l'.map f) s2
end Go.V
namespace Go.Proofs.YtommnllbflbdmaaGreatDoor
section
open Go.V
attribute [local irreducible] G GO GP GPW GPK Ev Ef EfR Ent CB GB V.Enters
section
variable {κ α:Type}[DecidableEq κ]
def oH:∀{m:List (κ×α)} {k:κ},k∉m.map (·.1)→gera m k=m
 | [],_,_=>rfl
 | p::m,k,h=>by
  simp only[bY,bh,not_or] at h;have e:(p.1 == k)=false:=by rw[beq_eq_false_iff_ne];exact fun x=>h.1 x.symm
  have ih:=oH (m:=m) (k:=k) h.2;unfold gera at ih ⊢;rw[cO (by rw[e];rfl),ih]
def mU:∀{m:List (κ×α)} {k:κ},glk m k=none→k∉m.map (·.1)
 | [],_,_=>by simp
 | p::m,k,h=>by
  obtain⟨q,a⟩:=p;unfold glk at h;rw[dw] at h;by_cases e:k=q
  ·subst e;simp at h
  ·have e2:(k == q)=false:=by rw[beq_eq_false_iff_ne];exact e
   rw[e2] at h;have:=mU (m:=m) (k:=k) h
   simp only[bY,bh,not_or];exact⟨e,this⟩
def np:∀{m:List (κ×α)} {k:κ} {a:α},(m.map (·.1)).Nodup→glk m k=some a→m.Perm ((k,a)::gera m k)
 | [],_,_,_,h=>by cases h
 | p::m,k,a,hn,h=>by
  obtain⟨q,b⟩:=p;simp only[bY,gi] at hn;unfold glk at h;rw[dw] at h;by_cases e:k=q
  ·subst e;simp only[beq_self_eq_true] at h;obtain rfl:b=a:=by simpa using h
   have e3:gera ((k,b)::m) k=m:=by
    have:=oH hn.1
    unfold gera at this ⊢;rw[cP bH,this]
   rw[e3]
  ·have e2:(k == q)=false:=by rw[beq_eq_false_iff_ne];exact e
   rw[e2] at h;have ih:=np hn.2 h
   have e3:gera ((q,b)::m) k=(q,b)::gera m k:=by
    unfold gera;rw[cO (by simp;exact fun x=>e x.symm)]
   rw[e3];exact(List.Perm.cons _ ih).trans (List.Perm.swap _ _ _)
def uF{k:κ}{a:α}:∀m:List (κ×α),gera (m.map fun p=>if p.1=k then(k,a) else p) k=gera m k
 | []=>rfl
 | p::m=>by
  have ih:=uF (k:=k) (a:=a) m;unfold gera at ih ⊢;simp only[bY];by_cases e:p.1=k
  ·rw[if_pos e,cP bH,cP (by simp[e]),ih]
  ·rw[if_neg e,cO (by simp[e]),cO (by simp[e]),ih]
def EO{m:List (κ×α)}{k:κ}{a:α}(hn:(m.map (·.1)).Nodup):(gins m k a).Perm ((k,a)::gera m k):=by
 have h1:=np (m:=gins m k a) (k:=k) (a:=a) (me hn) (by rw[jQ,if_pos rfl])
 have h2:gera (gins m k a) k=gera m k:=by
  unfold gins;split
  ·exact uF m
  ·unfold gera;rw[dG];simp
 rw[h2] at h1;exact h1
end
def fO(p:Int×Stk):HP:=osl ay 3 tLot p.2.ad p.2.cap p.2.lots
def fu(m:List (Int×Stk))(f:Int):Stk:=(glk m f).getD ⟨none,0,[]⟩
def rm{m:List (Int×Stk)}{f:Int}(hn:(m.map (·.1)).Nodup){L:LH}:Ent (bigO fO m::L) (osl ay 3 tLot (fu m f).ad (fu m f).cap (fu m f).lots::bigO fO (gera m f)::L):=by
 unfold fu;cases h:glk m f with
 | none =>
  rw[oH (mU h)];exact Ent.d8 ay 3 tLot
 | some a=>exact(Ent.m7 (np hn h)).trans Ent.bigO_uncons
def vO{m:List (Int×Stk)}{f:Int}(hn:(m.map (·.1)).Nodup){L:LH}:Ent (osl ay 3 tLot (fu m f).ad (fu m f).cap (fu m f).lots::bigO fO (gera m f)::L) (bigO fO m::L):=by
 unfold fu;cases h:glk m f with
 | none =>
  rw[oH (mU h)];exact Ent.drop
 | some a=>exact(Ent.m9 (f:=fO) (x:=(f,a))).trans (Ent.m7 (np hn h).symm)
def pk{m:List (Int×Stk)}{f:Int}(hn:(m.map (·.1)).Nodup)(s:Stk){L:LH}:Ent (osl ay 3 tLot s.ad s.cap s.lots::bigO fO (gera m f)::L) (bigO fO (gins m f s)::L) :=
 (Ent.m9 (f:=fO) (x:=(f,s))).trans (Ent.m7 (EO hn).symm)
def qp(m:List (Int×Stk))(f:Int):((glk m f).map Stk.v).getD (ae none 0 0)=ae (fu m f).ad (fu m f).lots.length (fu m f).cap:=by
 unfold fu;cases glk m f<;>rfl
def nX(m:List (Int×Stk))(f g:Int)(s:Stk):fu (gins m f s) g=if g=f then s else fu m g:=by
 unfold fu;rw[jQ];split<;>rfl
def stkI(p:Int×Stk):HP:=isl ay 3 p.2.ad p.2.lots
def Hh(m:List (Int×Stk)){L:LH}:Ent (bigO fO m::L) (allP stkI m::L):=Ent.m5 (fun _=>bI _ _ _ _) (fun _ _=>Ent.freezeSl) m L
def Hg(m:List (Int×Stk))(f:Int){L:LH}:Ent (allP stkI m::L) (isl ay 3 (fu m f).ad (fu m f).lots::allP stkI m::L):=by
 unfold fu;cases h:glk m f with
 | none=>exact(Ent.d8 ay 3 tLot).trans Ent.freezeSl
 | some a=>exact Ent.d9 (f:=stkI) (jl h)
end
section
open Go.V
attribute [local irreducible] G GO GP GPW GPK Ev Ef EfR Ent CB GB V.Enters
def lN(items:Int)(m:MvM):Prop:=(0≤m.item∧m.item<items)∧(1≤m.n∧m.n≤1099511627776)∧0≤m.frm∧0≤m.to
instance (items:Int)(m:MvM):Decidable (lN items m):=by unfold lN;infer_instance
def qR{L:LH}(items:Int)(m:MvV):Tri ai 52 #[ac items,aN (aT m)] L (rtQ (.bool (dB (lN items m.m))) L):=by
 obtain⟨⟨frm,to,item,n,parts⟩,pad,pcap⟩:=m;have a0:∀{p:Prop},¬p→(lN items ⟨frm,to,item,n,parts⟩→p)→dB (lN items ⟨frm,to,item,n,parts⟩)=false:=fun h q=>aM (fun r=>h (q r));refine Tri.bd (args:=[ac items,aN (aT ⟨⟨frm,to,item,n,parts⟩,pad,pcap⟩)]) ?_;simp only[aT];by_cases h1:0≤item
 case neg =>
  refine IF ?_;intros;exact KX.d7 av ah ⟨by rw[a0 h1 (fun h=>h.1.1)];rfl,rfl⟩
 by_cases h2:item<items
 case neg =>
  refine IF ?_;intros;exact KX.d7 av ah ⟨by rw[a0 h2 (fun h=>h.1.2)];rfl,rfl⟩
 by_cases h3:1≤n
 case neg =>
  refine IF ?_;intros;exact KX.d7 av ah ⟨by rw[a0 h3 (fun h=>h.2.1.1)];rfl,rfl⟩
 by_cases h4:n≤1099511627776
 case neg =>
  refine IF ?_;intros;exact KX.d7 av ah ⟨by rw[a0 h4 (fun h=>h.2.1.2)];rfl,rfl⟩
 by_cases h5:0≤frm
 case neg =>
  refine IF ?_;intros;exact KX.d7 av ah ⟨by rw[a0 h5 (fun h=>h.2.2.1)];rfl,rfl⟩
 refine IF ?_;intros;refine KX.d7 av ah ⟨?_,rfl⟩;by_cases h6:0≤to
 ·rw[aZ (show to ≥ 0 from h6),aZ (show lN items ⟨frm,to,item,n,parts⟩ from⟨⟨h1,h2⟩,⟨h3,h4⟩,h5,h6⟩)];rfl
 ·rw[aM (show ¬to ≥ 0 from h6),a0 h6 (fun h=>h.2.2.2)];rfl
def chgT(s:Int):Int×Int:=if s<0 then(0,10) else if 1099511627776<s then(0,4) else(s,0)
def qf{L:LH}(n b:Int)(h1 : -9223372036854775808≤n+b)(h2:n+b≤9223372036854775807):Tri ai 53 #[ac n,ac b] L (rtQ (.tuple #[ac (chgT (n+b)).1,ac (chgT (n+b)).2]) L):=by
 unfold chgT;refine Tri.bd ?_;by_cases c1:n+b<0
 ·refine IF ?_;intros;exact KX.d7 av ah ⟨by rw[if_pos c1];rfl,rfl⟩
 by_cases c2:1099511627776<n+b
 ·refine IF ?_;intros;exact KX.d7 av ah ⟨by rw[if_neg c1,if_pos c2];rfl,rfl⟩
 refine IF ?_;intros;exact KX.d7 av ah ⟨by rw[if_neg c1,if_neg c2];rfl,rfl⟩
def byT(m:MvM):Int:=(if m.frm=0 then m.n else 0) - (if m.to=0 then m.n else 0)
def kJ(items:Int)(t:List Int)(m:MvM):Int×List Int :=
 if ¬lN items m then(1,t) else if(chgT (t[m.item.toNat]! + byT m)).2=0 then(0,t.set m.item.toNat (chgT (t[m.item.toNat]! + byT m)).1) else((chgT (t[m.item.toNat]! + byT m)).2,t)
def totF(items:Int):List MvM→List Int→Int×List Int
 | [],t=>(0,t)
 | m::ms,t=>if(kJ items t m).1=0 then totF items ms (kJ items t m).2 else((kJ items t m).1,t)
def gd(ss:List StV):List MvM:=ss.flatMap (fun s=>s.moves.map MvV.m)
def resT(items:Int)(ss:List StV):Int×List Int :=
 if ¬(0≤items∧items≤64) then(1,[]) else if(totF items (gd ss) (List.replicate items.toNat 0)).1=0 then totF items (gd ss) (List.replicate items.toNat 0) else((totF items (gd ss) (List.replicate items.toNat 0)).1,[])
structure TotI (items:Int) (t:List Int):Prop where
 len:t.length=items.toNat
 bd:∀i,i<t.length→0≤t[i]!∧t[i]!≤1099511627776
def tT{s:Int}(h:(chgT s).2=0):(chgT s).1=s∧0≤s∧s≤1099511627776:=by
 unfold chgT at h ⊢;by_cases h1:s<0
 ·rw[if_pos h1] at h;exact absurd (show(10:Int)=0 from h) ag
 ·rw[if_neg h1] at h ⊢;by_cases h2:1099511627776<s
  ·rw[if_pos h2] at h;exact absurd (show(4:Int)=0 from h) ag
  ·rw[if_neg h2];exact⟨rfl,ab,ab⟩
def TotI.set{items:Int}{t:List Int}(h:TotI items t){k:Nat}{s:Int}(hs:(chgT s).2=0):TotI items (t.set k (chgT s).1):=by
 obtain⟨e,b1,b2⟩:=tT hs;refine⟨by rw[bJ];exact h.len,fun i hi=>?_⟩;rw[bJ] at hi;rw[e,getElem!_of (by rw[bJ];exact hi),List.getElem_set];split
 ·exact⟨b1,b2⟩
 ·have:=h.bd i hi
  rw[getElem!_of hi] at this;exact this
def tot0(items:Int):TotI items (List.replicate items.toNat 0):=⟨List.length_replicate,fun i hi=>by
 rw[getElem!_of hi,List.getElem_replicate];decide⟩
def pq{ss:List StV}{i:Nat}(h:i<ss.length){L:LH}:Ent (allP cR ss::L) (isl aT 5 ss[i]!.mad ss[i]!.moves::stP ss[i]!::allP cR ss::L):=(Ent.d9 (f:=cR) (aL h)).trans Ent.andE
def DU{items:Int}{m:MvM}{ms:List MvM}{t:List Int}:totF items (m::ms) t=if(kJ items t m).1=0 then totF items ms (kJ items t m).2 else((kJ items t m).1,t):=rfl
def sC(s:StV)(ss:List StV):gd (s::ss)=s.moves.map MvV.m++gd ss:=bB
def wX{s:StV}{ss:List StV}{j:Nat}(h:j<s.moves.length):(s.moves.drop j).map MvV.m++gd ss=s.moves[j]!.m::((s.moves.drop (j+1)).map MvV.m++gd ss):=by
 rw[fA h];rfl
def uW{L:LH}(items:Int)(ad:OA)(n c:Nat)(ss:List StV)[hr:Rds L ad StV aX 7 ss](hn:n=ss.length)(hl:ss.length≤1000000)(hm:∀s∈ss,s.moves.length≤1000000) :
  Tri ai 17 #[ac items,ae ad n c] (allP cR ss::L) (fun v L'=>∃a9 a3,v=.tuple #[ae a9 (resT items ss).2.length a3,ac (resT items ss).1]∧L' = osl (encZ .i64) 1 tInt a9 a3 (resT items ss).2::allP cR ss::L):=by
 subst hn;refine Tri.bd ?_;by_cases c1:0≤items
 case neg =>
  have e:resT items ss=(1,[]):=if_pos (fun q=>c1 q.1);rw[e];refine IF ?_;intros;exact KX.d7 av (Ent.d8 (encZ .i64) 1 tInt) ⟨none,0,rfl,rfl⟩
 by_cases c2:items≤64
 case neg =>
  have e:resT items ss=(1,[]):=if_pos (fun q=>c2 q.2);rw[e];refine IF ?_;intros;exact KX.d7 av (Ent.d8 (encZ .i64) 1 tInt) ⟨none,0,rfl,rfl⟩
 have e:resT items ss=if(totF items (gd ss) (List.replicate items.toNat 0)).1=0 then totF items (gd ss) (List.replicate items.toNat 0) else((totF items (gd ss) (List.replicate items.toNat 0)).1,[]):=if_neg (fun q=>q ⟨c1,c2⟩);rw[e];have b1:=tot0 items;generalize htt:List.replicate items.toNat (0:Int)=t0 at *;refine IF ?_;intros;refine GO.ef (Ef.makeSlice (encZ .i64) 0 rfl rfl rfl ab ab ab) ag ?_;rintro _ _⟨bt,rfl,rfl⟩;rw[htt];have b4:=b1.len;rw[←b4];refine IF ?_;intros;refine G.loop (α:=Nat×List Int) (fun g=>g.1≤ss.length∧TotI items g.2∧g.2.length=t0.length∧totF items (gd ss) t0=totF items (gd (ss.drop g.1)) g.2) (fun g=>[(0,ac items),(6,ae (some ⟨bt,0,none⟩) t0.length t0.length),(22,ae ad ss.length c),(23,ac ss.length),(24,ac (g.1:Int))]) (fun g=>osl (encZ .i64) 1 tInt (some ⟨bt,0,none⟩) t0.length g.2::allP cR ss::L) (fun g=>ss.length - g.1) (0,t0) ⟨az _,b1,rfl,rfl⟩ an (Ent.refl _) ?_;rintro⟨i,t⟩ ⟨hi,a1,a2,a0⟩;dsimp only at hi a1 a2 a0 ⊢;by_cases a6:i<ss.length
 case neg =>
  have e0:ss.drop i=[]:=bM ab;rw[e0] at a0;have e1:totF items (gd ss) t0=(0,t):=a0;rw[e1,if_pos rfl];refine IF ?_;intros;exact KX.d7 av (Ent.refl _) ⟨some ⟨bt,0,none⟩,t0.length,by rw[a2];rfl,rfl⟩
 have b2:(i:Int).toNat=i:=aD i;have b7 : (i:Int).toNat<ss.length:=ab;have b9:=hm _ (aL a6);rw[fA a6,sC] at a0;refine IF ?_;intros;refine G.ent (Ent.at (A:=allP cR ss) (pq a6)) ?_;rw[b2];generalize ss[i]! = s at *;refine G.loop (α:=Nat×List Int) (fun g=>g.1≤s.moves.length∧TotI items g.2∧g.2.length=t0.length∧totF items (gd ss) t0=totF items ((s.moves.drop g.1).map MvV.m++gd (ss.drop (i+1))) g.2) (fun g=>[(0,ac items),(6,ae (some ⟨bt,0,none⟩) t0.length t0.length),(22,ae ad ss.length c),(23,ac ss.length),(24,ac (i:Int)),(29,ae s.mad s.moves.length s.mcap),(30,ac s.moves.length),(31,ac (g.1:Int))]) (fun g=>isl aT 5 s.mad s.moves::osl (encZ .i64) 1 tInt (some ⟨bt,0,none⟩) t0.length g.2::allP cR ss::L) (fun g=>s.moves.length - g.1) (0,t) ⟨az _,a1,a2,a0⟩ an ah ?_;clear a1 a2 a0;rintro⟨j,t⟩ ⟨hj,a1,a2,a0⟩;dsimp only at hj a1 a2 a0 ⊢;by_cases b5:j<s.moves.length
 case neg =>
  have e0:s.moves.drop j=[]:=bM ab;rw[e0] at a0;refine IF ?_;intros;refine⟨(i+1,t),⟨by dsimp only;omega,a1,a2,a0⟩,by dsimp only;omega,?_,by exact ah⟩;dsimp only;rw[aU i];exact an
 have b3:(j:Int).toNat=j:=aD j;have b6 : (j:Int).toNat<s.moves.length:=ab;rw[wX b5,DU] at a0;refine IF ?_;intros;rw[b3];rename_i a4;generalize s.moves[j]! = m at *;refine GO.cr (qR items m) ?_;by_cases a5:lN items m.m
 case neg =>
  have es:kJ items t m.m=(1,t):=if_pos a5;rw[es,if_neg (show ¬(1:Int)=0 by decide)] at a0;rw[aM a5,a0,if_neg (show ¬(1:Int)=0 by decide)];refine IF ?_;intros;exact KX.d7 av (Ent.trans ah (Ent.d8 (encZ .i64) 1 tInt)) ⟨none,0,rfl,rfl⟩
 have es:kJ items t m.m=if(chgT (t[m.m.item.toNat]! + byT m.m)).2=0 then(0,t.set m.m.item.toNat (chgT (t[m.m.item.toNat]! + byT m.m)).1) else((chgT (t[m.m.item.toNat]! + byT m.m)).2,t):=if_neg (fun q=>q a5);obtain⟨⟨k1,k2⟩,⟨k3,k4⟩,k5,k6⟩:=a5;have b8:=a1.len;have b0:m.m.item.toNat<t.length:=ab;obtain⟨w1,w2⟩:=a1.bd _ b0;rw[aZ ⟨⟨k1,k2⟩,⟨k3,k4⟩,k5,k6⟩];obtain⟨⟨frm,to,item,mn,parts⟩,pad,pcap⟩:=m;dsimp only at k1 k2 k3 k4 k5 k6 b0 w1 w2 es a0 ⊢;simp only[aT];repeat first|refine G.sm 13 ?_|refine bF ?_|intro
 refine G.d8 (α:=Unit) (fun _=>True) (fun _=>[(0,ac items),(6,ae (some ⟨bt,0,none⟩) t0.length t0.length),(22,ae ad ss.length c),(23,ac ss.length),(24,ac (i:Int)),(29,ae s.mad s.moves.length s.mcap),(30,ac s.moves.length),(31,ac (j:Int)),(10,aq a4),(11,ac (if frm=0 then mn else 0))]) (fun _=>obj a4 tMv [ac frm,ac to,ac item,ac mn,ae pad parts.length pcap]::isl aT 5 s.mad s.moves::osl (encZ .i64) 1 tInt (some ⟨bt,0,none⟩) t0.length t::allP cR ss::L) ?_ ?_
 ·by_cases c3:frm=0
  ·refine IF ?_;intros;refine⟨(),trivial,?_,by exact ah⟩;rw[if_pos c3,show 0+mn=mn by omega];exact an
  ·refine IF ?_;intros;refine⟨(),trivial,?_,by exact ah⟩;rw[if_neg c3];exact an
 rintro _ _;refine G.d8 (α:=Unit) (fun _=>True) (fun _=>[(0,ac items),(6,ae (some ⟨bt,0,none⟩) t0.length t0.length),(22,ae ad ss.length c),(23,ac ss.length),(24,ac (i:Int)),(29,ae s.mad s.moves.length s.mcap),(30,ac s.moves.length),(31,ac (j:Int)),(10,aq a4),(11,ac (byT ⟨frm,to,item,mn,parts⟩))]) (fun _=>obj a4 tMv [ac frm,ac to,ac item,ac mn,ae pad parts.length pcap]::isl aT 5 s.mad s.moves::osl (encZ .i64) 1 tInt (some ⟨bt,0,none⟩) t0.length t::allP cR ss::L) ?_ ?_
 ·have hb : -1099511627776≤(if frm=0 then mn else 0)∧(if frm=0 then mn else 0)≤1099511627776:=by split<;>omega
  have he:byT ⟨frm,to,item,mn,parts⟩=(if frm=0 then mn else 0) - (if to=0 then mn else 0):=rfl;generalize (if frm=0 then mn else 0)=x at *;by_cases c3:to=0
  ·rw[if_pos c3] at he;refine IF ?_;intros;refine⟨(),trivial,?_,by exact ah⟩;rw[he];exact an
  ·rw[if_neg c3] at he;refine IF ?_;intros;refine⟨(),trivial,?_,by exact ah⟩;rw[he,show x - 0=x by omega];exact an
 rintro _ _
 have hb : -1099511627776≤byT ⟨frm,to,item,mn,parts⟩∧byT ⟨frm,to,item,mn,parts⟩≤1099511627776:=by
  unfold byT;dsimp only;split<;>split<;>omega
 generalize byT ⟨frm,to,item,mn,parts⟩=x at *;refine IF ?_;intros;refine GO.cr (qf t[item.toNat]! x ab ab) ?_;by_cases hc:(chgT (t[item.toNat]! + x)).2=0
 case neg =>
  rw[if_neg hc] at es;rw[es,if_neg (show ¬(chgT (t[item.toNat]! + x)).2=0 from hc)] at a0;rw[a0,if_neg (show ¬(chgT (t[item.toNat]! + x)).2=0 from hc)];generalize (chgT (t[item.toNat]! + x)).2=ec at *;refine IF ?_;intros;exact KX.d7 av (Ent.trans ah (Ent.d8 (encZ .i64) 1 tInt)) ⟨none,0,rfl,rfl⟩
 rw[if_pos hc] at es;rw[es,if_pos rfl] at a0;have a7:=TotI.set a1 (k:=item.toNat) hc;have a8 : (t.set item.toNat (chgT (t[item.toNat]! + x)).1).length=t0.length:=by rw[bJ];exact a2
 rw[hc];generalize (chgT (t[item.toNat]! + x)).1=y at *;refine IF ?_;intros;refine⟨(j+1,t.set item.toNat y),⟨by dsimp only;omega,a7,a8,a0⟩,by dsimp only;omega,?_,by exact ah⟩;dsimp only;rw[aU j];exact an
end
end Go.Proofs.YtommnllbflbdmaaGreatDoor
namespace Go.V
def nl{P:Program}{E:TypeId}(h:P.underlying E=some (.int .i64)):∀w,(isAgg E).run P w=.ok false w:=fun w=>by simp[isAgg,run_underlying h]
def wd{P:Program}{K E:Nat}[h:TyArr P K 2 E 1][he:TyInt P E .i64](a b:Int×Int)(w:World):(Op.equal K (kvP a) (kvP b)).run P w=.ok (decide (a=b)) w:=by
 have hE:=he.under;have hi:=h.size;cases hx:P.info? E with
 | none=>rw[hx] at hi;cases hi
 | some i =>
  have hc:P.cellsOf E=1:=by
   rw[hx] at hi;simp[Program.cellsOf,hx] at hi ⊢;exact hi
  obtain⟨a1,a2⟩:=a;obtain⟨b1,b2⟩:=b;have hq:=run_equalIn_array (P:=P) (w:=w) 9999 #[ac a1,ac a2] #[ac b1,ac b2] h.under hx;have e0:∀(c d:Int) (w:World),(part E #[Value.int .i64 c,Value.int .i64 d] 0).run P w=.ok (ac c) w:=fun c d w=>iJ (nl hE) rfl;have e1:∀(c d:Int) (w:World),(part E #[Value.int .i64 c,Value.int .i64 d] 1).run P w=.ok (ac d) w:=fun c d w=>iJ (nl hE) rfl;show(Op.equalIn (9999+1) K (.agg #[ac a1,ac a2]) (.agg #[ac b1,ac b2])).run P w=_;rw[hq,hc];have q:=fun c d=>run_equalIn_int (P:=P) w 9998 E .i64 .i64 c d hE;rw[show List.range 2=[0,1] from rfl];simp only[Op.eqItems,Sem.run_bind,Nat.zero_mul,Nat.one_mul,e0,e1,Result.andThen_ok,q];by_cases h1:a1=b1
  ·by_cases h2:a2=b2
   ·simp[h1,h2,e1,q]
   ·simp[h1,h2,e1,q]
  ·simp[h1]
theorem keyA{P:Program}{K E:Nat}[h:TyArr P K 2 E 1][he:TyInt P E .i64]:KeyT P K kvP where
 inj a b h:=by
  simp[kvP] at h;exact Prod.ext h.1 h.2
 check e k w:=by
  have hE:=he.under;have e0:∀(c d:Int) (w:World),(part E #[Value.int .i64 c,Value.int .i64 d] 0).run P w=.ok (ac c) w:=fun c d w=>iJ (nl hE) rfl;have e1:∀(c d:Int) (w:World),(part E #[Value.int .i64 c,Value.int .i64 d] 1).run P w=.ok (ac d) w:=fun c d w=>iJ (nl hE) rfl;have e2:∀(m:Nat) (c:Int) (w:World),(Instr.checkKey e (m+1) E (ac c)).run P w=.ok () w:=fun m c w=>by simp[Instr.checkKey,run_underlying hE]
  have a0:∀m,(Instr.checkKey e (m+1+1) K (.agg #[ac k.1,ac k.2])).run P w=.ok () w:=by
   intro m;rw[Instr.checkKey];simp only[Sem.run_bind,run_underlying h.under,Result.andThen_ok];simp[Std.Legacy.Range.forIn_eq_forIn_range',Std.Legacy.Range.size,List.range'_succ,h.sizeOf_run,e0,e1,e2]
  exact a0 9998
 bits k:=by
  have:∀n,Instr.sameBits (n+1) (kvP k) (kvP k)=true:=fun n=>by simp[Instr.sameBits,kvP]
  exact this 9999
 find k es ks w he':=by
  have hq:∀a b:Int×Int,(Op.equal K (kvP a) (kvP b)).run P w=.ok (decide (a=b)) w:=fun a b=>wd a b w;have h2:=lJ (P:=P) (K:=K) (w:=w) hq k es ks 0 he';simp only[Instr.findKey,Sem.run_bind,run_underlying h.under,Result.andThen_ok];cases es with
  | nil =>
   cases ks with
   | nil=>simp[Instr.findNow]
   | cons _ _=>simp at he'
  | cons x es =>
   cases ks with
   | nil=>simp at he'
   | cons q ks =>
    have hn:Instr.findNow (.array 2 E) (kvP k) (x::es) 0=none:=by simp[Instr.findNow,Instr.sameNow]
    rw[hn];simp only[dj] at h2;exact h2
end Go.V
namespace Go.Proofs.YtommnllbflbdmaaGreatDoor
open Go.V
attribute [local irreducible] G GO GP GPW GPK Ev Ef EfR Ent CB GB V.Enters
instance keyA2:KeyT ai 116 kvP:=keyA
def gFn(m:List ((Int×Int)×Int))(a i:Int):Int:=(glk m (a,i)).getD 0
def updH(f:Int→Int→Int)(a i n:Int):Int→Int→Int:=fun x y=>if x=a∧y=i then n else f x y
def Gp(m:List ((Int×Int)×Int))(a i n:Int):gFn (gins m (a,i) n)=updH (gFn m) a i n:=by
 funext x y;unfold gFn updH;rw[jQ];by_cases h:x=a∧y=i
 ·rw[if_pos h,if_pos (by rw[h.1,h.2])];rfl
 ·rw[if_neg h,if_neg (fun e=>h (by simpa using e))]
def chgH(f:Int→Int→Int)(a i b:Int):Int×(Int→Int→Int) :=
 if a=0 then(0,f) else if(chgT (f a i+b)).2=0 then(0,updH f a i (chgT (f a i+b)).1) else((chgT (f a i+b)).2,f)
def kQ(items:Int)(f:Int→Int→Int)(m:MvM):Int×(Int→Int→Int) :=
 if ¬lN items m then(1,f) else if(chgH f m.frm m.item (-m.n)).1=0 then chgH (chgH f m.frm m.item (-m.n)).2 m.to m.item m.n else((chgH f m.frm m.item (-m.n)).1,f)
def hldF(items:Int):List MvM→(Int→Int→Int)→Int×(Int→Int→Int)
 | [],f=>(0,f)
 | m::ms,f=>if(kQ items f m).1=0 then hldF items ms (kQ items f m).2 else((kQ items f m).1,f)
def resH(items:Int)(ss:List StV):Int×(Int→Int→Int) :=
 if ¬(0≤items∧items≤64) then(1,fun _ _=>0) else hldF items (gd ss) (fun _ _=>0)
structure HldI (f:Int→Int→Int):Prop where
 bd:∀a i,0≤f a i∧f a i≤1099511627776
 zero:∀i,f 0 i=0
def HldI.upd{f:Int→Int→Int}(h:HldI f){a i n:Int}(ha:a≠0)(h1:0≤n)(h2:n≤1099511627776):HldI (updH f a i n):=by
 refine⟨fun x y=>?_,fun y=>?_⟩
 ·unfold updH;split
  ·exact⟨h1,h2⟩
  ·exact h.bd x y
 ·unfold updH;rw[if_neg (fun e=>ha e.1.symm)];exact h.zero y
def HldI.chg{f:Int→Int→Int}(h:HldI f){a i b:Int}:HldI (chgH f a i b).2:=by
 unfold chgH;by_cases ha:a=0
 ·rw[if_pos ha];exact h
 ·rw[if_neg ha];by_cases hc:(chgT (f a i+b)).2=0
  ·rw[if_pos hc];obtain⟨e,b1,b2⟩:=tT hc;exact h.upd ha (by rw[e];exact b1) (by rw[e];exact b2)
  ·rw[if_neg hc];exact h
def hld0:HldI (fun _ _=>0):=⟨fun _ _=>by decide,fun _=>rfl⟩
def EM{items:Int}{m:MvM}{ms:List MvM}{f:Int→Int→Int}:hldF items (m::ms) f=if(kQ items f m).1=0 then hldF items ms (kQ items f m).2 else((kQ items f m).1,f):=rfl
def rg{L:LH}(bc bm:Nat)(m:List ((Int×Int)×Int))(a i b:Int)(hm:HldI (gFn m))(hb : -1099511627776≤b∧b≤1099511627776) :
  Tri ai 55 #[ac a,ac i,ac b,aq bc] (obj bc 115 [.map (some bm)]::gmap kvP encN bm m::L) (fun v L'=>∃m',v=ac (chgH (gFn m) a i b).1∧(gFn m' = (chgH (gFn m) a i b).2∧m'.length≤m.length+1)∧L' = obj bc 115 [.map (some bm)]::gmap kvP encN bm m'::L):=by
 refine Tri.bd ?_;obtain⟨w1,w2⟩:=hm.bd a i;by_cases ha:a=0
 ·have e:chgH (gFn m) a i b=(0,gFn m):=if_pos ha;rw[e];refine IF ?_;intros;exact KX.d7 av (Ent.refl _) ⟨m,rfl,⟨rfl,ab⟩,rfl⟩
 have e:chgH (gFn m) a i b=if(chgT (gFn m a i+b)).2=0 then(0,updH (gFn m) a i (chgT (gFn m a i+b)).1) else((chgT (gFn m a i+b)).2,gFn m):=if_neg ha;rw[e];refine IF ?_;intros;refine GO.ev (Ev.n8 rfl rfl) ag ?_;refine GO.ev (Ev.d8 rfl rfl) ag ?_
 have hg:((glk m (a,i)).map encN).getD (ac 0)=ac (gFn m a i):=by
  unfold gFn;cases glk m (a,i)<;>rfl
 unfold glk at hg;rw[hg];refine IF ?_;intros;refine GO.cr (qf (gFn m a i) b ab ab) ?_;by_cases hc:(chgT (gFn m a i+b)).2=0
 case neg =>
  rw[if_neg hc];generalize (chgT (gFn m a i+b)).2=ec at *;generalize (chgT (gFn m a i+b)).1=en at *;refine IF ?_;intros;exact KX.d7 av (Ent.refl _) ⟨m,rfl,⟨rfl,ab⟩,rfl⟩
 rw[if_pos hc,hc];obtain⟨e1,e2,e3⟩:=tT hc;generalize (chgT (gFn m a i+b)).1=y at *;refine IF ?_;intros;refine GO.ev (Ev.n8 rfl rfl) ag ?_;refine IF ?_;intros;refine GO.efu (Ef.e9 (enc:=encN) (e:=y) rfl rfl rfl rfl) ?_;rintro _ _⟨rfl,rfl⟩;refine IF ?_;intros;refine KX.d7 av ?_ ⟨gins m (a,i) y,rfl,⟨Gp m a i y,Gl m (a,i) y⟩,rfl⟩;exact ah
