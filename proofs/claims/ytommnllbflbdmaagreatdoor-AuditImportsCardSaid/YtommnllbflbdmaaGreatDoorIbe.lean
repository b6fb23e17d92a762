/- Lemmas. -/
import Derived.Test.YtommnllbflbdmaaGreatDoorIbd
set_option linter.all false
set_option maxHeartbeats 2000000
namespace Go.Proofs.YtommnllbflbdmaaGreatDoor
section
open Go.V
attribute [local irreducible] G GO GP GPW GPK Ev Ef EfR Ent CB GB V.Enters
def ovP(x y:Lot):Prop:=x.2.1<y.2.1+y.2.2∧y.2.1<x.2.1+x.2.2
instance (x y:Lot):Decidable (ovP x y):=by unfold ovP;infer_instance
abbrev zo:List Stp:=[.ev 0,.ev 1,.ev 2,.ef 3,.ev 4,.ev 5,.ev 6,.ev 7,.ev 8,.ef 9,.ev 10,.ev 11,.ev 12]
def Rc{φ ψ:Prop}(k:ψ)(h:Hid ψ→φ:=by intro k;(repeat (first|refine aa ?_|intro zzz|((with_reducible apply G.d8);first|refine G.d7 (N:=16) (id:=1) zo mixed aw ?_)));(repeat revert zzz);exact Hid.out k):φ:=h ⟨k⟩
def tn{L:LH}(b:Nat)(x y:Lot)(hx:LotW x)(hy:LotW y):Tri ag 231 #[.agg (ao y).toArray,av b] (obj b tLot (ao x)::L) (fun v L'=>v=.bool (dB (ovP x y))∧L' = obj b tLot (ao x)::L):=by
 refine Tri.bd ?_;refine Rc ?_;intros;refine GPW.cr (iN y hy) ?_;by_cases h1:x.2.1<y.2.1+y.2.2
 ·refine Rc ?_;intros;refine GPW.cr (iN x hx) ?_;refine Rc ?_;intros;refine KX.d7 an ?_ ⟨?_,rfl⟩
  ·exact ae
  ·by_cases h2:y.2.1<x.2.1+x.2.2
   ·rw[aT h2,aT (show ovP x y from⟨h1,h2⟩)];rfl
   ·rw[aH h2,aH (show ¬ovP x y from fun q=>h2 q.2)];rfl
 ·refine Rc ?_;intros;rw[aH (show ¬ovP x y from fun q=>h1 q.1)];refine KX.d7 an ?_ ⟨rfl,rfl⟩;exact ae
def ve{C L:LH}(g:FuncId)(cap:LV)(p:Lot→Prop)[DecidablePred p](ad:OA)(n c:Nat)(xs:LL)[hr:Rds (C++L) ad Lot ao 3 xs](hn:n=xs.length)(hl:xs.length≤1000000)(hg:∀y∈xs,Tri ag g (([]++[Value.agg (ao y).toArray]++cap:LV)).toArray (C++L) (fun v L'=>v=.bool (dB (p y))∧L' = C++L)) :
  Tri ag 272 #[.slice ad n c,.func (.func g) #[] cap.toArray] (C++L) (fun v L'=>∃i:Int,v=ac i∧((i = -1∧∀k,k<xs.length→¬p xs[k]!)∨∃k:Nat,i=k∧k<xs.length∧p xs[k]!∧∀j,j<k→¬p xs[j]!)∧L' = C++L):=by
 subst hn;refine Tri.bd ?_;refine Hz ?_;intros;refine G.loop (α:=Nat) (fun i=>i≤xs.length∧∀j,j<i→¬p xs[j]!) (fun i=>[(0,.slice ad xs.length c),(1,.func (.func g) #[] cap.toArray),(7,ac (xs.length:Int)),(8,ac (i:Int))]) (fun _=>C++L) (fun i=>xs.length - i) 0 ⟨aj _,fun j hj=>by omega⟩ ai (Ent.refl _) ?_;rintro i ⟨hi,hb⟩;by_cases a0:i<xs.length
 case neg =>
  obtain rfl:i=xs.length:=ab;refine Hz ?_;intros;exact KX.en ⟨-1,rfl,.inl ⟨rfl,hb⟩,rfl⟩
 have a1:(i:Int).toNat=i:=ab;refine Hz ?_;intros;rw[a1];refine GO.ef (Ef.d8 rfl rfl (hg xs[i]! (aG a0))) ah ?_;rintro _ _⟨rfl,rfl⟩;by_cases hp:p xs[i]!
 ·rw[aT hp];refine Hz ?_;intros;exact KX.en ⟨i,rfl,.inr ⟨i,rfl,a0,hp,hb⟩,rfl⟩
 ·rw[aH hp];refine Hz ?_;intros;refine⟨i+1,⟨ab,?_⟩,ab,?_,Ent.refl _⟩
  ·intro j hj;rcases ce j i with h|h
   ·exact hb j h
   ·obtain rfl:j=i:=ab;exact hp
  ·rw[aK i];exact ai
def rz{C L:LH}(g:FuncId)(cap:LV)(p:Lot→Prop)[DecidablePred p](ad:OA)(n c:Nat)(xs:LL)[hr:Rds (C++L) ad Lot ao 3 xs](hn:n=xs.length)(hl:xs.length≤1000000)(hg:∀y∈xs,Tri ag g (([]++[Value.agg (ao y).toArray]++cap:LV)).toArray (C++L) (fun v L'=>v=.bool (dB (p y))∧L' = C++L)) :
  Tri ag 230 #[.slice ad n c,.func (.func g) #[] cap.toArray] (C++L) (fun v L'=>v=.bool (dB (∃y∈xs,p y))∧L' = C++L):=by
 refine Tri.bd ?_;refine Hz ?_;intros;refine GO.ca (ve g cap p ad n c xs hn hl hg) ?_;rintro _ _⟨i,rfl,hi,rfl⟩;rcases hi with⟨rfl,a0⟩|⟨k,rfl,hk,hp,_⟩
 ·rw[aH (show ¬ ∃y∈xs,p y from fun⟨y,hy,hp⟩=>by
   obtain⟨k,hk,rfl⟩:=List.mem_iff_getElem.1 hy;have:=a0 k hk
   rw[getElem!_of hk] at this;exact this hp)]
  refine Hz ?_;intros;exact KX.d7 an (Ent.refl _) ⟨by rw[aH ab];rfl,rfl⟩
 ·rw[aT (show ∃y∈xs,p y from⟨_,aG hk,hp⟩)];refine Hz ?_;intros;exact KX.d7 an (Ent.refl _) ⟨by rw[aT ab];rfl,rfl⟩
def lJ{L:LH}(ad:OA)(n c:Nat)(xs:LL)(x:Lot)[hr:Rds L ad Lot ao 3 xs](hn:n=xs.length)(hl:xs.length≤1000000)(a1:∀y∈xs,LotW y)(hx:LotW x) :
  Tri ag 143 #[.slice ad n c,.agg (ao x).toArray] L (fun v L'=>v=.bool (dB (∃y∈xs,ovP x y))∧L' = L):=by
 refine Tri.bd ?_;refine Hz ?_;intros;rename_i b;have a2:Rds ([obj b tLot (ao x)]++L) ad Lot ao 3 xs:=(inferInstance:Rds (obj b tLot (ao x)::L) ad Lot ao 3 xs);refine GO.cr (rz (C:=[obj b tLot (ao x)]) 231 [av b] (ovP x) ad n c xs hn hl (fun y hy=>tn b x y hx (a1 y hy))) ?_;refine Hz ?_;intros;exact KX.d7 an (show Ent (obj b tLot (ao x)::L) L by exact ae) ⟨rfl,rfl⟩
def ltV(x:Lot):LV:=[.agg (ao x).toArray]
def vE{L0:LH}(bx:Nat)(ad:OA)(c:Nat)(l:LL)[hrd:Rds L0 ad Lot ao 3 l](hm:l.length≤1000000) :
  Iter ag 292 [av bx] (l.map ltV) (obj bx jL [.slice ad l.length c]::L0):=by
 intro i J Jx hy;rw[aA]
 have a4 : ∀k (hk:k<l.length),YTri ag i (ltV l[k]!) [J k] (fun v L'=>(v=.bool true∧L' = [J (k+1)])∨(v=.bool false∧L' = [Jx k])):=by
  intro k hk;have h:=hy k (by rw[aA];exact hk);rw[eW] at h;rw[getElem!_of hk];exact h
 clear hy;refine Tri.bd (args:=[.func (.yield i) #[] #[],av bx]) ?_;refine Hz ?_;intros;refine G.loop (α:=Nat) (fun k=>k≤l.length) (fun k=>[(0,.func (.yield i) #[] #[]),(1,av bx),(5,.slice ad l.length c),(6,ac l.length),(7,ac (k:Int))]) (fun k=>J k::obj bx jL [.slice ad l.length c]::L0) (fun k=>l.length - k) 0 (aj _) ai (Ent.refl _) ?_;intro k hk;by_cases a2:k<l.length
 case neg =>
  have a1:k=l.length:=ab;refine Hz ?_;intros;refine KX.e9 an (Ent.refl _) (.inl ?_);rw[a1]
 have a0:=a4 k a2;have a3:(k:Int).toNat=k:=ay k;refine Hz ?_;intros;rw[a3];refine GO.ent Ent.swap ?_;((with_reducible apply GO.d8);refine GO.efR (EfR.yield (a0) rfl rfl (by repeat (first|exact Ent.refl _|apply Ent.take))) ah ?_);rintro _ _⟨_,(⟨rfl,rfl⟩|⟨rfl,rfl⟩),hL⟩
 ·simp only[ax,ap] at hL;subst hL;refine Hz ?_;intros;refine⟨k+1,ab,ab,?_,?_⟩
  ·rw[show(((k+1:Nat)):Int)=(k:Int)+1 by omega];exact ai
  ·exact Ent.d7 Ent.drop
 ·simp only[ax,ap] at hL;subst hL;refine Hz ?_;intros;exact KX.d7 an (Ent.d7 Ent.drop) (.inr ⟨k,rfl⟩)
def sU{L:LH}(bx:Nat)(ad:OA)(c:Nat)(l:LL)[hrd:Rds L ad Lot ao 3 l](hm:l.length≤1000000) :
  Tri ag 308 #[.slice none 0 0,.func (.func 292) #[] #[av bx]] (obj bx jL [.slice ad l.length c]::L) (fun v L'=>∃a1 a0,v=.slice a1 l.length a0∧L' = osl ao 3 tLot a1 a0 l::obj bx jL [.slice ad l.length c]::L):=by
 refine Tri.bd ?_;refine Hz ?_;intros;rename_i b2;refine G.rangeFunc (vE (L0:=L) bx ad c l hm) rfl en292.1 ah (by intro vs a3;obtain⟨r,_,rfl⟩:=List.mem_map.1 a3;rfl) (fun k=>[stkO b2 (l.take k)]) ?_ ?_ ?_
 ·simp only[ax,ap,cd];refine Ent.trans ?_ (Ent.l7 (none,0) (f:=stkA b2 []) (Ent.refl _));simp only[stkA,cx,ax,ap];refine Ent.trans (Ent.d9 ao 3 tLot) ?_;exact ae
 ·intro k hk;rw[aA] at hk;rw[eW];have a2:l.take (k+1)=l.take k++[l[k]]:=aC hk;rw[a2];have a4:(l.take k).length≤1000000:=by rw[bh];omega
  generalize l.take k=T at a4;generalize l[k]=x;show G _ _ _ ((7,.agg (ao x).toArray)::_) _ _;refine G.f7 (f:=stkA b2 T) ?_;rintro⟨a5,c1⟩;simp only[stkA,ax,ap];refine Hz ?_;intros;refine GO.ef (Ef.d7 (enc:=ao) (e:=x) rfl rfl rfl rfl rfl (by rfl) (cK _) ab ab) ah ?_;rintro _ _⟨ad2,cap2,rfl,rfl⟩;refine Hz ?_;intros;refine KX.round ?_;refine Ent.trans ?_ (Ent.l7 (ad2,cap2) (f:=stkA b2 (T++[x])) (Ent.refl _));simp only[stkA,ax,ap];exact ae
 rw[aA,bD];simp only[ax,ap];refine KX.e8 ?_;refine Hz ?_;intros;refine GO.j0 (f:=stkA b2 l) ?_;rintro⟨ad2,cap2⟩;simp only[stkA,ax,ap];refine Hz ?_;intros;refine KX.d7 an ?_ ⟨ad2,cap2,rfl,rfl⟩;exact ae
def vi{L:LH}(bx:Nat)(ad:OA)(c:Nat)(l:LL)[hrd:Rds L ad Lot ao 3 l](hm:l.length≤1000000) :
  Tri ag 291 #[.func (.func 292) #[] #[av bx]] (obj bx jL [.slice ad l.length c]::L) (fun v L'=>∃a1 a0,v=.slice a1 l.length a0∧L' = osl ao 3 tLot a1 a0 l::obj bx jL [.slice ad l.length c]::L):=by
 refine Tri.bd ?_;refine Hz ?_;intros;refine GO.ca (sU bx ad c l hm) ?_;rintro _ _⟨a2,c1,rfl,rfl⟩;refine Hz ?_;intros;exact KX.en ⟨a2,c1,rfl,rfl⟩
abbrev zn:List Stp:=[.ev 0,.ev 1,.ev 2,.ev 3,.ev 5,.ev 6,.ev 7,.ev 8,.ef 4,.ef 9,.ef 10,.ef 11,.ev 12]
def Rg{φ ψ:Prop}(k:ψ)(h:Hid ψ→φ:=by intro k;(repeat (first|refine aa ?_|intro zzz|((with_reducible apply G.d8);first|refine G.d7 (N:=17) (id:=1) zn mixed aw ?_)));(repeat revert zzz);exact Hid.out k):φ:=h ⟨k⟩
def xx{L:LH}(x y:Lot):Tri ag 275 #[.agg (ao x).toArray,.agg (ao y).toArray] L (fun v L'=>v=ac (hdC x y)∧L' = L):=by
 refine Tri.bd ?_;refine Rg ?_;intros;refine GPW.cr (kd x.1 y.1) ?_;refine Rg ?_;intros;refine GPW.cr (kd x.2.1 y.2.1) ?_;refine Rg ?_;intros;rename_i bc;refine GPW.ent (Ent.g7 (enc:=encZ .i64) (sz:=1) (xs:=[cmpI x.1 y.1,cmpI x.2.1 y.2.1]) rfl rfl (fun _ _=>rfl) (by simp)) ?_;refine GPW.cr (ox (some ⟨bc,0,none⟩) 2 (cmpI x.1 y.1) (cmpI x.2.1 y.2.1)) ?_;refine Rg ?_;intros;exact KX.en ⟨rfl,rfl⟩
def vM{E cap:Nat}{ad:OA}{xs:LL}(a0:xs.length<4611686018427387904) :
  Tri ag 282 #[.slice ad xs.length cap,.func (.func 275) #[] #[]] [osl ao 3 E ad cap xs] (fun v L'=>v=.tuple #[]∧∃ys,gq hdC xs ys∧L' = [osl ao 3 E ad cap ys]) :=
 Tri.d7 (ρ:=Tryz.sortL_ren) Tryz.sortL (k:=3) Tryz.isAgg91 Tryz.sizeOf91 (fun _=>rfl) cK (Lc:=[]) hdC Af Hu en275.1 (fun _ _ _=>trivial) (fun x y=>(xx (L:=[]) x y).mono (fun _ _ h=>h.1)) a0
def tg{L:LH}(bx:Nat)(ad:OA)(c:Nat)(l:LL)[hrd:Rds L ad Lot ao 3 l](hm:l.length≤1000000) :
  Tri ag 273 #[.func (.func 292) #[] #[av bx],.func (.func 275) #[] #[]] (obj bx jL [.slice ad l.length c]::L) (fun v L'=>∃a1 a0 ys,v=.slice a1 ys.length a0∧gq hdC l ys∧L' = osl ao 3 tLot a1 a0 ys::obj bx jL [.slice ad l.length c]::L):=by
 refine Tri.bd ?_;refine Hz ?_;intros;refine GO.ca (vi bx ad c l hm) ?_;rintro _ _⟨a3,c1,rfl,rfl⟩;refine Hz ?_;intros;(first|refine GO.ef (Ef.call (vM (E:=tLot) (ad:=a3) (cap:=c1) (xs:=l) ab) rfl (by repeat (first|exact Ent.refl _|apply Ent.take))) ah ?_);rintro _ _⟨_,⟨rfl,ys,a2,rfl⟩,hL⟩;simp only[ax,ap] at hL;subst hL;have a4:=a2.1.length_eq;refine Hz ?_;intros;exact KX.d7 an (Ent.refl _) ⟨a3,c1,ys,by rw[a4];rfl,a2,rfl⟩
def vD{L:LH}(ad:OA)(n c:Nat) :
  Tri ag 274 #[.slice ad n c] L (fun v L'=>∃bx,v=.func (.func 292) #[] #[av bx]∧L' = obj bx jL [.slice ad n c]::L):=by
 refine Tri.bd ?_;refine Hz ?_;intros;rename_i bx;exact KX.en ⟨bx,rfl,rfl⟩
def qP{L:LH}(ad:OA)(n c:Nat)(l:LL)[hrd:Rds L ad Lot ao 3 l](hn:n=l.length)(hm:l.length≤1000000) :
  Tri ag 239 #[.slice ad n c] L (fun v L'=>∃a1 a0 ys,v=.slice a1 ys.length a0∧gq hdC l ys∧L' = osl ao 3 tLot a1 a0 ys::L):=by
 subst hn;refine Tri.bd ?_;refine Hz ?_;intros;refine GO.ca (vD ad l.length c) ?_;rintro _ _⟨bx,rfl,rfl⟩;refine Hz ?_;intros;refine GO.ca (tg bx ad c l hm) ?_;rintro _ _⟨a2,c1,ys,rfl,a3,rfl⟩;refine Hz ?_;intros;refine KX.d7 an ?_ ⟨a2,c1,ys,rfl,a3,rfl⟩;exact ae
instance (l:LL):Decidable (Apart l):=by unfold Apart apart;infer_instance
def gt(l:LL)(n:Int):Prop:=fg l∧Apart l∧lsum l=n
instance (l:LL)(n:Int):Decidable (gt l n):=by unfold gt;infer_instance
def partsA_iff{l:LL}{n:Int}:gt l n↔nI l n:=by
 constructor
 ·rintro⟨h1,h2,h3⟩;exact⟨h1,h3,((mw h1.1).2 h2).trans h3⟩
 ·rintro⟨h1,h2,h3⟩;exact⟨h1,(mw h1.1).1 (h3.trans h2.symm),h2⟩
def Cz{x y:Lot}(h:apart x y):apart y x:=by unfold apart at *;omega
def Apart.perm{l m:LL}(h:Apart l)(p:m.Perm l):Apart m:=(p.pairwise_iff (fun {a b} q=>Cz q)).2 h
def nbr(ys:LL)(k:Nat):Prop:=∀i,i+1<k→¬(ys[i+1]!.1=ys[i]!.1∧ys[i+1]!.2.1<ys[i]!.2.1+ys[i]!.2.2)
def te{ys:LL}(hs:ys.Pairwise (fun a b=>¬hdC b a<0)){i j:Nat}(h:i<j)(hj:j<ys.length):ys[i]!.1<ys[j]!.1∨(ys[i]!.1=ys[j]!.1∧ys[i]!.2.1≤ys[j]!.2.1):=by
 have:=(List.pairwise_iff_getElem.1 hs) i j ab hj h
 rw[nL] at this;unfold klt at this;rw[getElem!_of hj,getElem!_of ab];omega
def ui{ys:LL}(hs:ys.Pairwise (fun a b=>¬hdC b a<0))(hl:∀x∈ys,LotOk x)(hn:nbr ys ys.length){a:Nat}:∀b,a<b→b<ys.length→ys[a]!.1=ys[b]!.1→ys[a]!.2.1+ys[a]!.2.2≤ys[b]!.2.1
 | 0,h,_,_=>absurd h (bJ a)
 | b+1,h,hb,e=>by
  have h1:=hn b hb;rcases ce a b with q|q
  ·have g1:=te hs q ab;have g2:=te hs (show b<b+1 by omega) hb;have e2:ys[a]!.1=ys[b]!.1:=ab;have ih:=ui hs hl hn b q ab e2;have a0:=hl _ (aG (show b<ys.length by omega));unfold LotOk at a0;omega
  ·obtain rfl:a=b:=ab;omega
def Dp{l ys:LL}(h:gq hdC l ys)(hl:∀x∈l,LotOk x):nbr ys ys.length↔Apart l:=by
 have hy:∀x∈ys,LotOk x:=fun x hx=>hl x (h.1.mem_iff.1 hx);constructor
 ·intro hn;refine Apart.perm (m:=l) ?_ h.1.symm;refine List.pairwise_iff_getElem.2 (fun i j hi hj a0=>?_);have g:=ui h.2 hy hn j a0 hj;rw[getElem!_of hi,getElem!_of hj] at g;unfold apart;by_cases e:ys[i].1=ys[j].1
  ·exact .inr (.inl (g e))
  ·exact .inl e
 ·intro ha i hi;have hp:=(List.pairwise_iff_getElem.1 (Apart.perm ha h.1)) i (i+1) ab hi ab;rw[←getElem!_of hi,←getElem!_of ab] at hp;have g:=te h.2 (show i<i+1 by omega) hi;have h1:=hy _ (aG (show i<ys.length by omega));have h2:=hy _ (aG hi);unfold apart at hp;unfold LotOk at h1 h2;omega
abbrev wv:List Stp:=[.ev 0,.ev 1,.ev 2,.ev 3,.ev 4,.ev 5,.ev 6,.ev 7,.ev 8,.ev 9,.ev 10,.ev 11,.ev 12,.ev 13,.ev 14,.ev 15,.ev 16,.ev 17,.ev 18,.ev 19,.ev 20,.ev 21,.ev 22,.ef 23,.ev 24,.ev 25]
def Rk{φ ψ:Prop}(k:ψ)(h:Hid ψ→φ:=by intro k;(repeat (first|refine aa ?_|intro zzz|((with_reducible apply G.d8);first|refine G.d7 (N:=87) (id:=15) wv mixed aw ?_)));(repeat revert zzz);exact Hid.out k):φ:=h ⟨k⟩
def ko{L:LH}(ad:OA)(n c:Nat)(xs:LL)(m:Int)[hr:Rds L ad Lot ao 3 xs](hn:n=xs.length)(hm:n≤9223372036854775807) :
  Tri ag 234 #[.slice ad n c,ac m] L (fun v L'=>v=.bool (dB (gt xs m))∧L' = L):=by
 subst hn;refine Tri.bd ?_;by_cases h0:xs.length≤4096
 case neg =>
  refine Rk ?_;intros;exact KX.d7 an (Ent.refl _) ⟨by rw[aH (show ¬gt xs m from fun q=>h0 q.1.2)];rfl,rfl⟩
 refine Rk ?_;intros;refine G.loop (α:=Nat) (fun i=>i≤xs.length∧(∀k,k<i→LotOk xs[k]!)∧0≤lsum (xs.take i)∧lsum (xs.take i)≤(i:Int)*1099511627776) (fun i=>[(0,.slice ad xs.length c),(1,ac m),(5,ac (lsum (xs.take i))),(13,.slice ad xs.length c),(14,ac xs.length),(15,ac (i:Int))]) (fun _=>L) (fun i=>xs.length - i) 0 ⟨aj _,fun k hk=>absurd hk (bJ k),bj _,bj _⟩ ai (Ent.refl _) ?_;rintro i ⟨hi,a5,b8,b5⟩;by_cases a3:i<xs.length
 case pos =>
  have a2:(i:Int).toNat=i:=ab;have hs:=dX xs a3;by_cases hp:LotOk xs[(i:Int).toNat]!
  ·have b1:=hp;unfold LotOk at b1
   have c2:1≤xs[i]!.2.2∧xs[i]!.2.2≤1099511627776:=by
    rw[a2] at b1;omega
   have c0:(i:Int)*1099511627776≤4096*1099511627776:=bW ab ah
   have b7:((i+1:Nat):Int)*1099511627776=(i:Int)*1099511627776+1099511627776:=by
    rw[Int.natCast_add,Int.add_mul];rfl
   refine Rk ?_;intros;refine⟨i+1,⟨ab,fun k hk=>?_,by rw[hs];omega,by rw[hs,b7];omega⟩,ab,?_,by exact ae⟩
   ·by_cases e:k=i
    ·rw[e,←a2];exact hp
    ·exact a5 k ab
   ·rw[aK i,hs,show xs[i]! = xs[(i:Int).toNat]! by rw[a2]];exact ai
  ·have a6:dB (gt xs m)=false:=aH (fun q=>hp (by rw[a2];exact q.1.1 _ (aG a3)));rw[a6];unfold LotOk at hp;by_cases p1:0≤xs[(i:Int).toNat]!.1
   case neg =>
    refine Rk ?_;intros;exact KX.en ⟨rfl,rfl⟩
   by_cases p2:0≤xs[(i:Int).toNat]!.2.1
   case neg =>
    refine Rk ?_;intros;exact KX.en ⟨rfl,rfl⟩
   by_cases p3:xs[(i:Int).toNat]!.2.1≤1099511627776
   case neg =>
    refine Rk ?_;intros;exact KX.en ⟨rfl,rfl⟩
   by_cases p4:1≤xs[(i:Int).toNat]!.2.2
   case neg =>
    refine Rk ?_;intros;exact KX.en ⟨rfl,rfl⟩
   refine Rk ?_;intros;exact KX.en ⟨rfl,rfl⟩
 have a0:∀x∈xs,LotOk x:=fun x hx=>by
  obtain⟨k,hk,e⟩:=List.mem_iff_getElem.1 hx;have h2:=a5 k ab;rw[getElem!_of hk,e] at h2;exact h2
 obtain rfl:i=xs.length:=ab;rw[bD];refine Rk ?_;intros;refine GO.ca (qP ad xs.length c xs rfl ab) ?_;rintro _ _⟨b0,c1,ys,rfl,a4,rfl⟩;have b9:=a4.1.length_eq;have b2:∀x∈ys,LotOk x:=fun x hx=>a0 x (a4.1.mem_iff.1 hx);have a9:=Dp a4 a0;refine Rk ?_;intros;refine G.loop (α:=Nat) (fun i=>1≤i∧i≤ys.length+1∧nbr ys i) (fun i=>[(1,ac m),(5,ac (lsum xs)),(8,.slice b0 ys.length c1),(9,ac (i:Int))]) (fun _=>osl ao 3 tLot b0 c1 ys::L) (fun i=>ys.length+1 - i) 1 ⟨aB _,ab,fun i hi=>by omega⟩ ai (Ent.refl _) ?_;clear hi a5 b8 b5 a3;rintro i ⟨h1,hi,a7⟩;by_cases a3:i<ys.length
 case neg =>
  have b6:Apart xs:=a9.1 (fun k hk=>a7 k ab);refine Rk ?_;intros;refine KX.d7 an ae ⟨?_,rfl⟩;by_cases he:lsum xs=m
  ·rw[aT he,aT (show gt xs m from⟨⟨a0,h0⟩,b6,he⟩)];rfl
  ·rw[aH he,aH (show ¬gt xs m from fun q=>he q.2.2)];rfl
 have a2:(i:Int).toNat=i:=ab;have a1:((i:Int) - 1).toNat=i - 1:=ab
 have hw:LotW ys[((i:Int) - 1).toNat]!:=by
  rw[a1];exact(b2 _ (aG ab)).w
 have b3 : (i:Int).toNat<ys.length:=ab;have b4:((i:Int) - 1).toNat<ys.length:=ab
 have a8:¬(ys[(i:Int).toNat]!.1=ys[((i:Int) - 1).toNat]!.1∧ys[(i:Int).toNat]!.2.1<ys[((i:Int) - 1).toNat]!.2.1+ys[((i:Int) - 1).toNat]!.2.2)→nbr ys (i+1):=fun q k hk=>by
  by_cases e:k+1<i
  ·exact a7 k e
  ·obtain rfl:k=i - 1:=ab;rw[a2,a1] at q;rw[show i - 1+1=i by omega];exact q
 by_cases e1:ys[(i:Int).toNat]!.1=ys[((i:Int) - 1).toNat]!.1
 ·refine Rk ?_;intros;refine GPW.cr (iN ys[((i:Int) - 1).toNat]! hw) ?_;by_cases e2:ys[(i:Int).toNat]!.2.1<ys[((i:Int) - 1).toNat]!.2.1+ys[((i:Int) - 1).toNat]!.2.2
  ·have a6:dB (gt xs m)=false:=aH (fun q=>by
    have h3:=a9.2 q.2.1 (i - 1) ab;rw[a2,a1] at e1 e2;rw[show i - 1+1=i by omega] at h3;exact h3 ⟨e1,e2⟩)
   rw[a6];refine Rk ?_;intros;exact KX.en ⟨rfl,rfl⟩
  ·refine Rk ?_;intros;refine⟨i+1,⟨ab,ab,a8 (fun q=>e2 q.2)⟩,ab,?_,by exact ae⟩;rw[aK i];exact ai
 ·refine Rk ?_;intros;refine⟨i+1,⟨ab,ab,a8 (fun q=>e1 q.1)⟩,ab,?_,by exact ae⟩;rw[aK i];exact ai
end
section
open Go.V
def Gx{a b:LL}(p:a.Perm b)(t:Lot):OV a t=OV b t:=by
 induction p with
 | nil=>rfl
 | cons x p ih=>show ov x t+OV _ t=ov x t+OV _ t;rw[ih]
 | swap x y l=>show ov y t+(ov x t+OV l t)=ov x t+(ov y t+OV l t);omega
 | trans p1 p2 ih1 ih2=>exact ih1.trans ih2
def Du{a b:LL}(p:a.Perm b):lsum a=lsum b:=by
 induction p with
 | nil=>rfl
 | cons x p ih=>rw[gM,gM,ih]
 | swap x y l=>rw[gM,gM,gM,gM];omega
 | trans p1 p2 ih1 ih2=>exact ih1.trans ih2
def Gy{a b:LL}(p:a.Perm b)(s:LL):OO a s=OO b s:=vw (fun t _=>Gx p t)
def ofF_mem{ys:LL}{f:Int}{p:Lot}:p∈ofF ys f↔p∈ys∧p.1=f:=by
 unfold ofF;rw[List.mem_filter];simp
def zZ{l ys:LL}(h:gq hdC l ys)(hl:∀x∈l,LotOk x)(ha:Apart l)(f:Int):Ord (ofF ys f):=by
 have hy:∀x∈ys,LotOk x:=fun x hx=>hl x (h.1.mem_iff.1 hx)
 have h2:(ofF ys f).Pairwise (fun a b=>¬hdC b a<0∧apart a b):=by
  have h3:ys.Pairwise (fun a b=>¬hdC b a<0∧apart a b):=List.pairwise_and_iff.2 ⟨h.2,Apart.perm ha h.1⟩;exact h3.sublist gy
 refine h2.imp_of_mem (fun {a b} hma hmb q=>?_);obtain⟨q1,q2⟩:=q;obtain⟨m1,e1⟩:=ofF_mem.1 hma;obtain⟨m2,e2⟩:=ofF_mem.1 hmb;have g1:=hy a m1;have g2:=hy b m2;rw[nL] at q1;unfold klt at q1;unfold apart at q2;unfold LotOk at g1 g2;omega
def tM{f:Int}:∀{ys l:LL},(∀x∈ys,LotOk x)→(∀z∈l,LotOk z∧z.1=f)→ys.foldl subL l=(ofF ys f).foldl subL l
 | [],_,_,_=>rfl
 | p::ys,l,h1,h2=>by
  have hp:=h1 p au;have a0 : ∀x∈ys,LotOk x:=fun x hx=>h1 x (aq _ hx);by_cases e:p.1=f
  ·have e2:ofF (p::ys) f=p::ofF ys f:=cj (by simpa using e);rw[e2];refine tM (ys:=ys) (l:=subL l p) a0 (fun z hz=>?_);obtain⟨y,hy,g1,g2,_⟩:=nB hp (fun z hz=>(h2 z hz).1) hz;exact⟨g1,g2.trans (h2 y hy).2⟩
  ·have e2:ofF (p::ys) f=ofF ys f:=cn (by simpa using e);rw[e2];show ys.foldl subL (subL l p)=_;rw[kw (fun z hz=>.inl (fun q=>e (q.symm.trans (h2 z hz).2)))];exact tM a0 h2
def Et(t:Lot):∀ys:LL,OV ys t=OV (ofF ys t.1) t
 | []=>rfl
 | p::ys=>by
  have ih:=Et t ys;by_cases e:p.1=t.1
  ·have e2:ofF (p::ys) t.1=p::ofF ys t.1:=cj (by simpa using e);rw[e2];show ov p t+OV ys t=ov p t+OV (ofF ys t.1) t;rw[ih]
  ·have e2:ofF (p::ys) t.1=ofF ys t.1:=cn (by simpa using e);rw[e2];show ov p t+OV ys t=_;rw[ih,show ov p t=0 from if_neg e];omega
def CJ{l ys:LL}(h:gq hdC l ys)(hl:∀x∈l,LotOk x)(ha:Apart l){x:Lot}(hx:LotOk x)(s:LL×Int):wLot x (ofF ys x.1) s=((fD ys x).foldl ba s.1,s.2 - OV ys x):=by
 have hy:∀x∈ys,LotOk x:=fun x hx=>hl x (h.1.mem_iff.1 hx);have a0:=hx;unfold LotOk at a0;obtain⟨h1,h2⟩:=qQ hx (ofF ys x.1) s.1 x.2.1 s.2 (zZ h hl ha x.1) (fun p hp=>⟨hy p (ofF_mem.1 hp).1,(ofF_mem.1 hp).2⟩) (bj _) ab
 have e1:curL x x.2.1=[x]:=by
  unfold curL;rw[if_pos ab,show x.2.1+x.2.2 - x.2.1=x.2.2 by omega]
 rw[e1] at h1;rw[show x.2.1+x.2.2 - x.2.1=x.2.2 by omega] at h2;unfold wLot;rw[h1,h2];have e2:fD ys x=(ofF ys x.1).foldl subL [x]:=tM hy (fun z hz=>by rw[List.mem_singleton.1 hz];exact⟨hx,rfl⟩);rw[e2,Et x ys]
def tU{l ys:LL}(h:gq hdC l ys)(hl:∀x∈l,LotOk x)(ha:Apart l):∀(a0:LL) (s:LL×Int),(∀x∈a0,LotOk x)→wAll ys a0 s=(a0.foldl (fun out y=>(fD ys y).foldl ba out) s.1,s.2 - OO ys a0)
 | [],s,_=>by
  show s=(s.1,s.2 - 0);rw[show s.2 - 0=s.2 by omega]
 | x::a0,s,hs=>by
  show wAll ys a0 (wLot x (ofF ys x.1) s)=_;rw[CJ h hl ha (hs x au) s,tU h hl ha a0 _ (fun z hz=>hs z (aq _ hz))];show(_,s.2 - OV ys x - OO ys a0)=(_,s.2 - (OV ys x+OO ys a0));rw[show s.2 - OV ys x - OO ys a0=s.2 - (OV ys x+OO ys a0) by omega];rfl
def EA{ps ys a0:LL}(h:gq hdC ps ys)(hp:∀x∈ps,LotOk x)(ha:Apart ps)(hs:∀x∈a0,LotOk x):wAll ys a0 ([],lsum ys)=(el a0 ps,lsum ps - OO ps a0):=by
 rw[tU h hp ha a0 _ hs,Du h.1,Gy h.1];have e:a0.foldl (fun out y=>(fD ys y).foldl ba out) []=el a0 ys:=rfl
 have e2:el a0 ys=el a0 ps:=by
  rw[nV,nV];rw[Fo h.1.symm hp ha hs]
 show(a0.foldl (fun out y=>(fD ys y).foldl ba out) [],_)=_;rw[e,e2]
def rH{ps own:LL}(h1:fg ps)(ha:Apart ps)(h2:fg own)(ho:Apart own):fV ps own↔lsum ps - OO ps own=0:=by
 have hs:=la h1.1;have e1:lsum (fA ps own)=lsum (setL ps) - OO (setL ps) own:=mN hs.2 h2.1 ho;have hd:=(mw h1.1).2 ha;obtain⟨_,_,g3,_⟩:=lc h1.1 ps.length (aB _);rw[bD] at g3;have e3:OO (setL ps) own=OO ps own:=vw (fun t ht=>(g3 hd).2 t (h2.1 t ht));rw[hd,e3] at e1;have a0:=(jG h1.1 h2.1).1;constructor
 ·rintro⟨_,_,h3⟩;rw[h3,iD] at e1;exact e1.symm
 ·intro h;refine⟨h1,h2,?_⟩;rw[h] at e1;cases hm:fA ps own with
  | nil=>rfl
  | cons x l =>
   rw[hm] at e1 a0;have:=jI a0 (Nat.zero_lt_succ l.length)
   omega
end
end Go.Proofs.YtommnllbflbdmaaGreatDoor
namespace Go.V
def Ent.l9{α:Type}{f:α→HP}{l l' : List α}(h:l.Perm l'){L:LH}:Ent (bigO f l::L) (bigO f l'::L):=fun θ R w s=>by
 have s1:=Sat.ofStars (A:=l.map f) s;have s2:Sat θ (l'.map f++(L++R)) w:=s1.perm ((h.map f).append_right _);exact Sat.d7 (A:=l'.map f) s2
end Go.V
namespace Go.Proofs.YtommnllbflbdmaaGreatDoor
open Go.V
attribute [local irreducible] G GO GP GPW GPK Ev Ef EfR Ent CB GB V.Enters
section
variable {κ α:Type}[DecidableEq κ]
def oH:∀{m:List (κ×α)} {k:κ},k∉m.map (·.1)→gera m k=m
 | [],_,_=>rfl
 | p::m,k,h=>by
  simp only[bO,bz,not_or] at h;have e:(p.1 == k)=false:=by rw[beq_eq_false_iff_ne];exact fun x=>h.1 x.symm
  have ih:=oH (m:=m) (k:=k) h.2;unfold gera at ih ⊢;rw[cj (by rw[e];rfl),ih]
def mG:∀{m:List (κ×α)} {k:κ},glk m k=none→k∉m.map (·.1)
 | [],_,_=>by simp
 | p::m,k,h=>by
  obtain⟨q,a⟩:=p;unfold glk at h;rw[dh] at h;by_cases e:k=q
  ·subst e;simp at h
  ·have e2:(k == q)=false:=by rw[beq_eq_false_iff_ne];exact e
   rw[e2] at h;have:=mG (m:=m) (k:=k) h
   simp only[bO,bz,not_or];exact⟨e,this⟩
def mU:∀{m:List (κ×α)} {k:κ} {a:α},(m.map (·.1)).Nodup→glk m k=some a→m.Perm ((k,a)::gera m k)
 | [],_,_,_,h=>by cases h
 | p::m,k,a,hn,h=>by
  obtain⟨q,b⟩:=p;simp only[bO,dQ] at hn;unfold glk at h;rw[dh] at h;by_cases e:k=q
  ·subst e;simp only[beq_self_eq_true] at h;obtain rfl:b=a:=by simpa using h
   have e3:gera ((k,b)::m) k=m:=by
    have:=oH hn.1
    unfold gera at this ⊢;rw[cn (by simp),this]
   rw[e3]
  ·have e2:(k == q)=false:=by rw[beq_eq_false_iff_ne];exact e
   rw[e2] at h;have ih:=mU hn.2 h
   have e3:gera ((q,b)::m) k=(q,b)::gera m k:=by
    unfold gera;rw[cj (by simp;exact fun x=>e x.symm)]
   rw[e3];exact(List.Perm.cons _ ih).trans (List.Perm.swap _ _ _)
def ur{k:κ}{a:α}:∀m:List (κ×α),gera (m.map fun p=>if p.1=k then(k,a) else p) k=gera m k
 | []=>rfl
 | p::m=>by
  have ih:=ur (k:=k) (a:=a) m;unfold gera at ih ⊢;simp only[bO];by_cases e:p.1=k
  ·rw[if_pos e,cn (by simp),cn (by simp[e]),ih]
  ·rw[if_neg e,cj (by simp[e]),cj (by simp[e]),ih]
def DO{m:List (κ×α)}{k:κ}{a:α}(hn:(m.map (·.1)).Nodup):(gins m k a).Perm ((k,a)::gera m k):=by
 have h1:=mU (m:=gins m k a) (k:=k) (a:=a) (kE hn) (by rw[km,if_pos rfl])
 have h2:gera (gins m k a) k=gera m k:=by
  unfold gins;split
  ·exact ur m
  ·unfold gera;rw[dK];simp
 rw[h2] at h1;exact h1
end
def dO(p:Int×Stk):HP:=osl ao 3 tLot p.2.ad p.2.cap p.2.lots
def eY(m:List (Int×Stk))(f:Int):Stk:=(glk m f).getD ⟨none,0,[]⟩
def nX{m:List (Int×Stk)}{f:Int}(hn:(m.map (·.1)).Nodup){L:LH}:Ent (bigO dO m::L) (osl ao 3 tLot (eY m f).ad (eY m f).cap (eY m f).lots::bigO dO (gera m f)::L):=by
 unfold eY;cases h:glk m f with
 | none =>
  rw[oH (mG h)];exact Ent.d9 ao 3 tLot
 | some a=>exact(Ent.l9 (mU hn h)).trans Ent.bigO_uncons
def qU{m:List (Int×Stk)}{f:Int}(hn:(m.map (·.1)).Nodup){L:LH}:Ent (osl ao 3 tLot (eY m f).ad (eY m f).cap (eY m f).lots::bigO dO (gera m f)::L) (bigO dO m::L):=by
 unfold eY;cases h:glk m f with
 | none =>
  rw[oH (mG h)];exact Ent.drop
 | some a=>exact(Ent.m6 (f:=dO) (x:=(f,a))).trans (Ent.l9 (mU hn h).symm)
def mO{m:List (Int×Stk)}{f:Int}(hn:(m.map (·.1)).Nodup)(s:Stk){L:LH}:Ent (osl ao 3 tLot s.ad s.cap s.lots::bigO dO (gera m f)::L) (bigO dO (gins m f s)::L) :=
 (Ent.m6 (f:=dO) (x:=(f,s))).trans (Ent.l9 (DO hn).symm)
def nC(m:List (Int×Stk))(f:Int):((glk m f).map Stk.v).getD (.slice none 0 0)=.slice (eY m f).ad (eY m f).lots.length (eY m f).cap:=by
 unfold eY;cases glk m f<;>rfl
def lU(m:List (Int×Stk))(f g:Int)(s:Stk):eY (gins m f s) g=if g=f then s else eY m g:=by
 unfold eY;rw[km];split<;>rfl
def stkI(p:Int×Stk):HP:=isl ao 3 p.2.ad p.2.lots
def FP(m:List (Int×Stk)){L:LH}:Ent (bigO dO m::L) (allP stkI m::L):=Ent.m7 (fun _=>bQ _ _ _ _) (fun _ _=>Ent.freezeSl) m L
def FO(m:List (Int×Stk))(f:Int){L:LH}:Ent (allP stkI m::L) (isl ao 3 (eY m f).ad (eY m f).lots::allP stkI m::L):=by
 unfold eY;cases h:glk m f with
 | none=>exact(Ent.d9 ao 3 tLot).trans Ent.freezeSl
 | some a=>exact Ent.d8 (f:=stkI) (jz h)
