/- Lemmas. -/
import Derived.Test.YtommnllbflbdmaaGreatDoorIau
set_option linter.all false
set_option maxHeartbeats 2000000
namespace Go.Proofs.YtommnllbflbdmaaGreatDoor
section
open Go.V
attribute [local irreducible] G GO GP GPW GPK Ev Ef EfR Ent CB GB V.Enters
def setL(l:LL):LL:=l.foldl insL []
def iu{α β:Type}(f:β→α→β)(b:β)[Inhabited α]{l:List α}{i:Nat}(h:i<l.length):(l.take (i+1)).foldl f b=f ((l.take i).foldl f b) l[i]!:=by
 rw[aC h,cJ,getElem!_of h];rfl
def mP{l:LL}(h:∀x∈l,LotOk x):∀i,i≤l.length→(setL (l.take i)).length≤i∧∀x∈setL (l.take i),LotOk x
 | 0,_=>⟨aB _,(fun _ q=>by cases q)⟩
 | i+1,hi=>by
  obtain⟨h1,h2⟩:=mP h i ab;have e:setL (l.take (i+1))=insL (setL (l.take i)) l[i]!:=iu insL [] ab;rw[e];obtain⟨h3,h4⟩:=Gl (h _ (aG (show i<l.length by omega))) h2;exact⟨ab,h4⟩
def la{l:LL}(h:∀x∈l,LotOk x):(setL l).length≤l.length∧∀x∈setL l,LotOk x:=by
 have:=mP h l.length (aB _)
 rwa [bD] at this
def apart(y z:Lot):Prop:=y.1≠z.1∨y.2.1+y.2.2≤z.2.1∨z.2.1+z.2.2≤y.2.1
def Apart(l:LL):Prop:=l.Pairwise apart
def subS(x y:Lot):LL :=
 if y.1≠x.1∨x.2.1+x.2.2≤y.2.1∨y.2.1+y.2.2≤x.2.1 then[y]
 else(if y.2.1<x.2.1 then[(x.1,y.2.1,x.2.1 - y.2.1)] else[])++(if x.2.1+x.2.2<y.2.1+y.2.2 then[(x.1,x.2.1+x.2.2,y.2.1+y.2.2 - x.2.1 - x.2.2)] else[])
def subL(l:LL)(x:Lot):LL:=l.flatMap (subS x)
def me{x y p:Lot}(hx:LotOk x)(hy:LotOk y)(hp:p∈subS x y):LotOk p∧p.1=y.1∧y.2.1≤p.2.1∧p.2.1+p.2.2≤y.2.1+y.2.2:=by
 unfold LotOk at hx hy;unfold subS at hp;split at hp
 ·rw[List.mem_singleton.1 hp];exact⟨hy,rfl,bj _,bj _⟩
 ·rename_i hn;rcases List.mem_append.1 hp with hp|hp
  ·split at hp
   ·rw[List.mem_singleton.1 hp];unfold LotOk;dsimp only;omega
   ·cases hp
  ·split at hp
   ·rw[List.mem_singleton.1 hp];unfold LotOk;dsimp only;omega
   ·cases hp
def AM{x:Lot}(y:Lot)(hx:0≤x.2.2):Apart (subS x y):=by
 unfold Apart subS;split
 ·exact cI _ _
 ·rename_i hn;split
  ·split
   ·refine List.pairwise_cons.2 ⟨fun z hz=>?_,cI _ _⟩;rw[List.mem_singleton.1 hz];unfold apart;dsimp only;omega
   ·exact cI _ _
  ·split
   ·exact cI _ _
   ·exact List.Pairwise.nil
def vJ(x y:Lot):(subS x y).length≤2:=by
 unfold subS;split
 ·exact ga 1
 ·rw[aD];split<;>split<;>simp
def kw{x:Lot}:∀{l:LL},(∀z∈l,apart z x)→subL l x=l
 | [],_=>rfl
 | z::l,h=>by
  have e:subL (z::l) x=subS x z++subL l x:=bP
  have e1:subS x z=[z]:=by
   unfold subS;have:=h z au
   unfold apart at this;rw[if_pos];omega
  rw[e,e1,kw (fun y hy=>h y (aq _ hy))];rfl
def nB{x:Lot}{l:LL}(hx:LotOk x)(hl:∀y∈l,LotOk y){p:Lot}(hp:p∈subL l x):∃y∈l,LotOk p∧p.1=y.1∧y.2.1≤p.2.1∧p.2.1+p.2.2≤y.2.1+y.2.2:=by
 obtain⟨y,hy,hp⟩:=List.mem_flatMap.1 hp;exact⟨y,hy,me hx (hl y hy) hp⟩
def pZ{x:Lot}{l:LL}(hx:LotOk x)(hl:∀y∈l,LotOk y):∀p∈subL l x,LotOk p:=fun p hp=>by
 obtain⟨_,_,h,_⟩:=nB hx hl hp;exact h
def lS{x:Lot}(hx:LotOk x):∀{l:LL},(∀y∈l,LotOk y)→Apart l→Apart (subL l x)∧(subL l x).length≤l.length+1
 | [],_,_=>⟨List.Pairwise.nil,aj _⟩
 | y::l,hl,ha=>by
  obtain⟨a1,a2⟩:=List.pairwise_cons.1 ha;have a0:∀z∈l,LotOk z:=fun z hz=>hl z (aq _ hz);obtain⟨i1,i2⟩:=lS hx a0 a2;have e:subL (y::l) x=subS x y++subL l x:=bP;have hy:=hl y au;rw[e];refine⟨List.pairwise_append.2 ⟨AM y (by unfold LotOk at hx;omega),i1,fun p hp q hq=>?_⟩,?_⟩
  ·obtain⟨_,p1,p2,p3⟩:=me hx hy hp;obtain⟨z,hz,_,q1,q2,q3⟩:=nB hx a0 hq;have:=a1 z hz
   unfold apart at this ⊢;omega
  ·rw[aD,bu];by_cases h2:(subS x y).length≤1
   ·omega
   ·have a3:y.1=x.1∧y.2.1<x.2.1∧x.2.1+x.2.2<y.2.1+y.2.2:=by
     unfold subS at h2;split at h2
     ·exact absurd (aB 1) h2
     ·rename_i hn;split at h2
      ·split at h2
       ·omega
       ·exact absurd (aB 1) h2
      ·split at h2
       ·exact absurd (aB 1) h2
       ·exact absurd (aj 1) h2
    rw[kw (l:=l) (fun z hz=>by
     have h3:=a1 z hz;have h4:=a0 z hz;unfold LotOk at hx h4;unfold apart at h3 ⊢;omega)]
    have:=vJ x y
    omega
def fD(set:LL)(y:Lot):LL:=set.foldl subL [y]
def ot{set:LL}{y:Lot}(hs:∀x∈set,LotOk x)(hy:LotOk y):∀i,i≤set.length→(∀p∈fD (set.take i) y,LotOk p)∧Apart (fD (set.take i) y)∧(fD (set.take i) y).length≤i+1
 | 0,_=>⟨fun p hp=>by rw[List.mem_singleton.1 hp];exact hy,cI _ _,aB _⟩
 | i+1,hi=>by
  obtain⟨h1,h2,h3⟩:=ot hs hy i ab;have e:fD (set.take (i+1)) y=subL (fD (set.take i) y) set[i]!:=iu subL [y] ab;rw[e];have hx:=hs _ (aG (show i<set.length by omega));obtain⟨h4,h5⟩:=lS hx h1 h2;exact⟨pZ hx h1,h4,ab⟩
def vZ{set:LL}{y:Lot}(hs:∀x∈set,LotOk x)(hy:LotOk y):(∀p∈fD set y,LotOk p)∧Apart (fD set y)∧(fD set y).length≤set.length+1:=by
 have:=ot hs hy set.length (aB _)
 rwa [bD] at this
def el(s set:LL):LL:=s.foldl (fun out y=>(fD set y).foldl ba out) []
def rb{r out:LL}(hr:∀p∈r,LotOk p)(ho:∀p∈out,LotOk p):∀i,i≤r.length→(∀p∈(r.take i).foldl ba out,LotOk p)∧((r.take i).foldl ba out).length≤out.length+i
 | 0,_=>⟨ho,aB _⟩
 | i+1,hi=>by
  obtain⟨h1,h2⟩:=rb hr ho i ab;rw[iu ba out ab];have hx:=hr _ (aG (show i<r.length by omega));have:=kC ((r.take i).foldl ba out) r[i]!
  refine⟨oB h1 ?_,ab⟩;unfold LotOk at hx;unfold LotW;omega
def nU{s set:LL}(h:∀x∈s,LotOk x)(hs:∀x∈set,LotOk x):∀i,i≤s.length→(∀p∈el (s.take i) set,LotOk p)∧(el (s.take i) set).length≤i*(set.length+1)
 | 0,_=>⟨(fun _ q=>by cases q),aj _⟩
 | i+1,hi=>by
  obtain⟨h1,h2⟩:=nU h hs i ab;have e:el (s.take (i+1)) set=(fD set s[i]!).foldl ba (el (s.take i) set):=iu (fun out y=>(fD set y).foldl ba out) [] ab;obtain⟨r1,_,r3⟩:=vZ hs (h _ (aG (show i<s.length by omega)));have h3:=rb r1 h1 (fD set s[i]!).length (aB _);rw[bD] at h3;rw[e];refine⟨h3.1,?_⟩;have h4:=h3.2;have e2:(i+1)*(set.length+1)=i*(set.length+1)+(set.length+1):=Nat.succ_mul _ _;omega
def vB{s set:LL}(h:∀x∈s,LotOk x)(hs:∀x∈set,LotOk x):(∀p∈el s set,LotOk p)∧(el s set).length≤s.length*(set.length+1):=by
 have:=nU h hs s.length (aB _)
 rwa [bD] at this
def fA(a b:LL):LL:=el (setL a) b
def fL(a b:LL):LL:=fA a (fA a b)
def fV(a b:LL):Prop:=fg a∧fg b∧fA a b=[]
instance (a b:LL):Decidable (fV a b):=by unfold fV;infer_instance
def jG{a b:LL}(ha:∀x∈a,LotOk x)(hb:∀x∈b,LotOk x):(∀p∈fA a b,LotOk p)∧(fA a b).length≤a.length*(b.length+1):=by
 obtain⟨h1,h2⟩:=la ha;obtain⟨h3,h4⟩:=vB h2 hb;exact⟨h3,cg h4 (dw _ h1)⟩
def qw{L:LH}(ad:OA)(n c:Nat)(xs:LL)[Rds L ad Lot ao 3 xs](hn:n=xs.length)(hv:fg xs) :
  Tri ag 223 #[.slice ad n c] L (fun v L'=>∃a1 a0,v=.slice a1 (setL xs).length a0∧L' = osl ao 3 tLot a1 a0 (setL xs)::L):=by
 subst hn;obtain⟨hx,hl⟩:=hv;have a5:=mP hx;refine Tri.bd ?_;refine Hz ?_;intros;refine GO.ca (iz ad xs.length c xs rfl ab) ?_;rintro _ L ⟨rfl,rfl⟩;rw[aT (show fg xs from⟨hx,hl⟩)];refine Hz ?_;intros;refine G.loop (α:=Nat×OA×Nat) (fun g=>g.1≤xs.length) (fun g=>[(0,.slice ad xs.length c),(3,.slice g.2.1 (setL (xs.take g.1)).length g.2.2),(4,.bool true),(5,ac (g.1:Int))]) (fun g=>osl ao 3 tLot g.2.1 g.2.2 (setL (xs.take g.1))::L) (fun g=>xs.length - g.1) (0,none,0) (aj _) ai (Ent.d9 ao 3 tLot) ?_;rintro⟨i,a2,c1⟩ hi;dsimp only at hi ⊢;obtain⟨h1,h2⟩:=a5 i hi;by_cases a3:i<xs.length
 case neg =>
  obtain rfl:i=xs.length:=ab;rw[bD];refine Hz ?_;intros;exact KX.en ⟨a2,c1,rfl,rfl⟩
 have a6:(i:Int).toNat=i:=ab;have e:setL (xs.take (i+1))=insL (setL (xs.take i)) xs[i]!:=iu insL [] a3;have a4:=hx _ (aG a3);refine Hz ?_;intros;rw[a6];refine GO.ca (vX a2 (setL (xs.take i)).length c1 (setL (xs.take i)) xs[i]! rfl ab h2 a4) ?_;rintro _ _⟨ad2,c2,rfl,rfl⟩;refine Hz ?_;intros;refine⟨(i+1,ad2,c2),by dsimp only;omega,by dsimp only;omega,?_,?_⟩
 ·dsimp only;rw[e,aK i];exact ai
 ·dsimp only;rw[e];exact ae
abbrev BC:List Stp:=[.ev 0,.ev 1,.ev 2,.ev 3,.ev 4,.ev 5,.ev 6,.ev 7,.ev 8,.ev 9,.ev 10,.ev 11]
abbrev BB:List Stp:=[.ev 0,.ev 1,.ev 2,.ev 3,.ev 4,.ev 5,.ev 6,.ev 7,.ev 8,.ev 9,.ev 10,.ev 11,.ev 12,.ev 13,.ev 14,.ev 15,.ev 16,.ev 17,.ev 18,.ev 19,.ev 20,.ev 21,.ev 22]
def ML{φ ψ:Prop}(k:ψ)(h:Hid ψ→φ:=by intro k;(repeat (first|refine aa ?_|intro zzz|((with_reducible apply G.d8);first|refine G.d7 (N:=102) (id:=6) BC mixed aw ?_|refine G.d7 (N:=102) (id:=7) BB mixed aw ?_)));(repeat revert zzz);exact Hid.out k):φ:=h ⟨k⟩
def CW{L:LH}(ad:OA)(n c:Nat)(xs:LL)(x:Lot)[Rds L ad Lot ao 3 xs](hn:n=xs.length)(hl:xs.length≤100000)(b1:∀y∈xs,LotOk y)(hx:LotOk x) :
  Tri ag 270 #[.slice ad n c,.agg (ao x).toArray] L (fun v L'=>∃a6 a2,v=.slice a6 (subL xs x).length a2∧L' = osl ao 3 tLot a6 a2 (subL xs x)::L):=by
 subst hn;obtain⟨f,a,m⟩:=x;have a7:=hx;unfold LotOk at a7;dsimp only at a7
 have a4:∀i,i≤xs.length→(subL (xs.take i) (f,a,m)).length≤2*i:=by
  intro i;induction i with
  | zero=>intro _;exact aB _
  | succ i ih =>
   intro hi
   have e:subL (xs.take (i+1)) (f,a,m)=subL (xs.take i) (f,a,m)++subS (f,a,m) xs[i]!:=by
    unfold subL;rw[aC ab,cN,getElem!_of ab];simp
   have:=vJ (f,a,m) xs[i]!
   have:=ih ab
   rw[e,aD];omega
 refine Tri.bd (args:=[.slice ad xs.length c,.agg (ao (f,a,m)).toArray]) ?_;simp only[ao];refine ML ?_;intros;rename_i b3
 refine G.loop (α:=Nat×OA×Nat) (fun g=>g.1≤xs.length) (fun g=>[(0,.slice ad xs.length c),(3,av b3),(5,.slice g.2.1 (subL (xs.take g.1) (f,a,m)).length g.2.2),(6,ac (g.1:Int))])
  (fun g=>osl ao 3 tLot g.2.1 g.2.2 (subL (xs.take g.1) (f,a,m))::obj b3 tLot [ac f,ac a,ac m]::L) (fun g=>xs.length - g.1) (0,none,0) (aj _) ai ((Ent.d9 ao 3 tLot).trans ae) ?_
 rintro⟨i,a8,c1⟩ hi;dsimp only at hi ⊢;have b4:=a4 i hi;by_cases b5:i<xs.length
 case neg =>
  obtain rfl:i=xs.length:=ab;rw[bD];refine ML ?_;intros;exact KX.en ⟨a8,c1,rfl,rfl⟩
 have a5 : (i:Int).toNat<xs.length:=ab;have b0:(i:Int).toNat=i:=ab
 have e:subL (xs.take (i+1)) (f,a,m)=subL (xs.take i) (f,a,m)++subS (f,a,m) xs[(i:Int).toNat]!:=by
  unfold subL;rw[b0,aC ab,cN,getElem!_of ab];simp
 have hy:=b1 _ (aG a5);generalize subL (xs.take i) (f,a,m)=z at *;obtain⟨y,b2⟩:∃y,xs[(i:Int).toNat]! = y:=⟨_,rfl⟩;unfold LotOk at hy;unfold subS at e;have back:∀(zs:LL) (a1:OA) (a0:Nat),subL (xs.take (i+1)) (f,a,m)=zs→True:=fun _ _ _ _=>trivial;by_cases h1:xs[(i:Int).toNat]!.1=f
 case neg =>
  rw[if_pos (.inl h1)] at e;refine ML ?_;intros;refine GO.ef (Ef.d7 (enc:=ao) xs[(i:Int).toNat]! rfl rfl rfl rfl rfl (by rfl) (cK _) ab ab) ah ?_;rintro _ _⟨a1,a0,rfl,rfl⟩;refine ML ?_;intros;refine⟨(i+1,a1,a0),by dsimp only;omega,by dsimp only;omega,?_,?_⟩
  ·dsimp only;rw[e,aK i];exact ai
  ·dsimp only;rw[e];exact ae
 by_cases h2:a+m≤xs[(i:Int).toNat]!.2.1
 case pos =>
  rw[if_pos (.inr (.inl h2))] at e;refine ML ?_;intros;refine GO.ef (Ef.d7 (enc:=ao) xs[(i:Int).toNat]! rfl rfl rfl rfl rfl (by rfl) (cK _) ab ab) ah ?_;rintro _ _⟨a1,a0,rfl,rfl⟩;refine ML ?_;intros;refine⟨(i+1,a1,a0),by dsimp only;omega,by dsimp only;omega,?_,?_⟩
  ·dsimp only;rw[e,aK i];exact ai
  ·dsimp only;rw[e];exact ae
 by_cases h3:xs[(i:Int).toNat]!.2.1+xs[(i:Int).toNat]!.2.2≤a
 case pos =>
  rw[if_pos (.inr (.inr h3))] at e;refine ML ?_;intros;refine GO.ef (Ef.d7 (enc:=ao) xs[(i:Int).toNat]! rfl rfl rfl rfl rfl (by rfl) (cK _) ab ab) ah ?_;rintro _ _⟨a1,a0,rfl,rfl⟩;refine ML ?_;intros;refine⟨(i+1,a1,a0),by dsimp only;omega,by dsimp only;omega,?_,?_⟩
  ·dsimp only;rw[e,aK i];exact ai
  ·dsimp only;rw[e];exact ae
 rw[if_neg (fun q=>q.elim (fun q=>q h1) (fun q=>q.elim h2 h3))] at e;dsimp only at e;by_cases h4:xs[(i:Int).toNat]!.2.1<a
 ·rw[if_pos h4] at e;by_cases h5:a+m<xs[(i:Int).toNat]!.2.1+xs[(i:Int).toNat]!.2.2
  ·rw[if_pos h5] at e;refine ML ?_;intros;refine GO.ef (Ef.d7 (enc:=ao) (f,xs[(i:Int).toNat]!.2.1,a - xs[(i:Int).toNat]!.2.1) rfl rfl rfl rfl rfl (by rfl) (cK _) ab ab) ah ?_;rintro _ _⟨a1,a0,rfl,rfl⟩;refine ML ?_;intros;refine GO.ef (Ef.d7 (enc:=ao) (f,a+m,xs[(i:Int).toNat]!.2.1+xs[(i:Int).toNat]!.2.2 - a - m) rfl rfl rfl (by simp) rfl (by rfl) (cK _) (by simp;omega) (by simp;omega)) ah ?_;rintro _ _⟨a9,a3,rfl,rfl⟩;refine ML ?_;intros;refine⟨(i+1,a9,a3),by dsimp only;omega,by dsimp only;omega,?_,?_⟩
   ·dsimp only;rw[e,←aJ,aK i];exact ai
   ·dsimp only;rw[e,←aJ];exact ae
  ·rw[if_neg h5,aY] at e;refine ML ?_;intros;refine GO.ef (Ef.d7 (enc:=ao) (f,xs[(i:Int).toNat]!.2.1,a - xs[(i:Int).toNat]!.2.1) rfl rfl rfl rfl rfl (by rfl) (cK _) ab ab) ah ?_;rintro _ _⟨a1,a0,rfl,rfl⟩;refine ML ?_;intros;refine⟨(i+1,a1,a0),by dsimp only;omega,by dsimp only;omega,?_,?_⟩
   ·dsimp only;rw[e,aK i];exact ai
   ·dsimp only;rw[e];exact ae
 ·rw[if_neg h4,ap] at e;by_cases h5:a+m<xs[(i:Int).toNat]!.2.1+xs[(i:Int).toNat]!.2.2
  ·rw[if_pos h5] at e;refine ML ?_;intros;refine GO.ef (Ef.d7 (enc:=ao) (f,a+m,xs[(i:Int).toNat]!.2.1+xs[(i:Int).toNat]!.2.2 - a - m) rfl rfl rfl rfl rfl (by rfl) (cK _) ab ab) ah ?_;rintro _ _⟨a1,a0,rfl,rfl⟩;refine ML ?_;intros;refine⟨(i+1,a1,a0),by dsimp only;omega,by dsimp only;omega,?_,?_⟩
   ·dsimp only;rw[e,aK i];exact ai
   ·dsimp only;rw[e];exact ae
  ·rw[if_neg h5,aY] at e;refine ML ?_;intros;refine⟨(i+1,a8,c1),by dsimp only;omega,by dsimp only;omega,?_,?_⟩
   ·dsimp only;rw[e,aK i];exact ai
   ·dsimp only;rw[e];exact ae
def oQ{L:LH}(a1:OA)(n1 c1:Nat)(xs:LL)[Rds L a1 Lot ao 3 xs](ad2:OA)(n2 c2:Nat)(ys:LL)[Rds L ad2 Lot ao 3 ys](b6:n1=xs.length)(c8:n2=ys.length)(hx:fg xs)(hy:fg ys) :
  Tri ag 225 #[.slice a1 n1 c1,.slice ad2 n2 c2] L (fun v L'=>∃a9 a4,v=.slice a9 (el xs ys).length a4∧L' = osl ao 3 tLot a9 a4 (el xs ys)::L):=by
 subst b6 c8;obtain⟨a7,b3⟩:=hx;obtain⟨a3,d0⟩:=hy;have b4:=nU a7 a3;refine Tri.bd ?_;refine Hz ?_;intros;refine GO.ca (iz a1 xs.length c1 xs rfl ab) ?_;rintro _ L ⟨rfl,rfl⟩;rw[aT (show fg xs from⟨a7,b3⟩)];refine Hz ?_;intros;refine GO.ca (iz ad2 ys.length c2 ys rfl ab) ?_;rintro _ L ⟨rfl,rfl⟩;rw[aT (show fg ys from⟨a3,d0⟩)];refine Hz ?_;intros;refine G.loop (α:=Nat×OA×Nat) (fun g=>g.1≤xs.length) (fun g=>[(0,.slice a1 xs.length c1),(1,.slice ad2 ys.length c2),(7,.slice g.2.1 (el (xs.take g.1) ys).length g.2.2),(8,ac (g.1:Int))]) (fun g=>osl ao 3 tLot g.2.1 g.2.2 (el (xs.take g.1) ys)::L) (fun g=>xs.length - g.1) (0,none,0) (aj _) ai (Ent.d9 ao 3 tLot) ?_;rintro⟨i,a0,c3⟩ hi;dsimp only at hi ⊢;obtain⟨w1,w2⟩:=b4 i hi;have c0:i*(ys.length+1)≤4096*4097:=Nat.mul_le_mul ab ab;by_cases b2:i<xs.length
 case neg =>
  obtain rfl:i=xs.length:=ab;rw[bD];refine Hz ?_;intros;exact KX.en ⟨a0,c3,rfl,rfl⟩
 have c9:(i:Int).toNat=i:=ab;have b5 : (i:Int).toNat<xs.length:=ab;have b1:=a7 _ (aG b2);have e:el (xs.take (i+1)) ys=(fD ys xs[i]!).foldl ba (el (xs.take i) ys):=iu (fun out y=>(fD ys y).foldl ba out) [] b2;have b0:=ot a3 b1;have b8:=vZ a3 b1;refine Hz ?_;intros;rw[c9];rename_i b9;generalize el (xs.take i) ys=out at *;generalize xs[i]! = y at *;refine G.ent (L':=osl ao 3 tLot (some ⟨b9,0,none⟩) 1 [y]::osl ao 3 tLot a0 c3 out::L) ?_ ?_
 ·refine Ent.trans (B:=obj b9 tLot (ao y)::osl ao 3 tLot a0 c3 out::L) ae ?_;exact Ent.g7 (enc:=ao) (sz:=3) (xs:=[y]) (by simp) rfl (by intro z hz;rw[List.mem_singleton.1 hz];rfl) (by simp)
 refine Hz ?_;intros;refine G.loop (α:=Nat×OA×Nat) (fun g=>g.1≤ys.length) (fun g=>[(0,.slice a1 xs.length c1),(1,.slice ad2 ys.length c2),(7,.slice a0 out.length c3),(8,ac (i:Int)),(9,.slice g.2.1 (fD (ys.take g.1) y).length g.2.2),(10,ac (g.1:Int))]) (fun g=>osl ao 3 tLot g.2.1 g.2.2 (fD (ys.take g.1) y)::osl ao 3 tLot a0 c3 out::L) (fun g=>ys.length - g.1) (0,some ⟨b9,0,none⟩,1) (aj _) ai (Ent.refl _) ?_;rintro⟨k,a6,c4⟩ hk;dsimp only at hk ⊢;obtain⟨r1,_,r3⟩:=b0 k hk;by_cases a2:k<ys.length
 case pos =>
  have a8:(k:Int).toNat=k:=ab;have e2:fD (ys.take (k+1)) y=subL (fD (ys.take k) y) ys[k]!:=iu subL [y] a2;refine Hz ?_;intros;rw[a8];refine GO.ca (CW a6 (fD (ys.take k) y).length c4 (fD (ys.take k) y) ys[k]! rfl ab r1 (a3 _ (aG a2))) ?_;rintro _ _⟨a5,c5,rfl,rfl⟩;refine Hz ?_;intros;refine⟨(k+1,a5,c5),by dsimp only;omega,by dsimp only;omega,?_,?_⟩
  ·dsimp only;rw[e2,aK k];exact ai
  ·dsimp only;rw[e2];exact ae
 obtain rfl:k=ys.length:=ab;rw[bD] at *;clear b0;obtain⟨_,_,r5⟩:=b8;generalize fD ys y=r at *;have b7:=rb r1 w1;refine Hz ?_;intros;refine G.loop (α:=Nat×OA×Nat) (fun g=>g.1≤r.length) (fun g=>[(0,.slice a1 xs.length c1),(1,.slice ad2 ys.length c2),(7,.slice g.2.1 ((r.take g.1).foldl ba out).length g.2.2),(8,ac (i:Int)),(9,.slice a6 r.length c4),(11,ac (g.1:Int))]) (fun g=>osl ao 3 tLot g.2.1 g.2.2 ((r.take g.1).foldl ba out)::osl ao 3 tLot a6 c4 r::L) (fun g=>r.length - g.1) (0,a0,c3) (aj _) ai (by show Ent _ (osl ao 3 tLot a0 c3 out::osl ao 3 tLot a6 c4 r::L);exact ae) ?_;rintro⟨k,a5,c5⟩ hk;dsimp only at hk ⊢;obtain⟨p1,p2⟩:=b7 k hk;by_cases a2:k<r.length
 case pos =>
  have a8:(k:Int).toNat=k:=ab;have e2:(r.take (k+1)).foldl ba out=ba ((r.take k).foldl ba out) r[k]!:=iu ba out a2;have c7:=r1 _ (aG a2);unfold LotOk at c7;refine Hz ?_;intros;rw[a8];refine GO.ca (lp a5 ((r.take k).foldl ba out).length c5 ((r.take k).foldl ba out) r[k]! rfl ab (fun z hz=>by have:=p1 z hz;unfold LotOk at this;unfold LotW;omega) (by unfold LotW;omega)) ?_;rintro _ _⟨d1,c6,rfl,rfl⟩;refine Hz ?_;intros;refine⟨(k+1,d1,c6),by dsimp only;omega,by dsimp only;omega,?_,?_⟩
  ·dsimp only;rw[e2,aK k];exact ai
  ·dsimp only;rw[e2];exact ae
 obtain rfl:k=r.length:=ab;rw[bD];refine Hz ?_;intros;refine⟨(i+1,a5,c5),by dsimp only;omega,by dsimp only;omega,?_,?_⟩
 ·dsimp only;rw[e,aK i];exact ai
 ·dsimp only;rw[e];exact ae
def nl{L:LH}(a1:OA)(n1 c1:Nat)(xs:LL)[Rds L a1 Lot ao 3 xs](ad2:OA)(n2 c2:Nat)(ys:LL)[Rds L ad2 Lot ao 3 ys](a5:n1=xs.length)(a6:n2=ys.length)(hx:fg xs)(hy:fg ys) :
  Tri ag 145 #[.slice a1 n1 c1,.slice ad2 n2 c2] L (fun v L'=>∃a2 a0,v=.slice a2 (fA xs ys).length a0∧L' = osl ao 3 tLot a2 a0 (fA xs ys)::L):=by
 refine Tri.bd ?_;have hs:=la hx.1;have a7:=hx.2;refine Hz ?_;intros;refine GO.ca (qw a1 n1 c1 xs a5 hx) ?_;rintro _ _⟨a3,c3,rfl,rfl⟩;refine Hz ?_;intros;refine GO.ca (oQ a3 (setL xs).length c3 (setL xs) ad2 n2 c2 ys rfl a6 ⟨hs.2,ab⟩ hy) ?_;rintro _ _⟨a4,c4,rfl,rfl⟩;refine Hz ?_;intros;have e:fA xs ys=el (setL xs) ys:=rfl;rw[e];refine KX.d7 an ?_ ⟨a4,c4,rfl,rfl⟩;exact ae
def ol{L:LH}(a1:OA)(n1 c1:Nat)(xs:LL)[Rds L a1 Lot ao 3 xs](ad2:OA)(n2 c2:Nat)(ys:LL)[Rds L ad2 Lot ao 3 ys](a3:n1=xs.length)(a4:n2=ys.length)(hx:fg xs)(hy:fg ys)(hm:(fA xs ys).length≤4096) :
  Tri ag 98 #[.slice a1 n1 c1,.slice ad2 n2 c2] L (fun v L'=>∃a2 a0,v=.slice a2 (fL xs ys).length a0∧L' = osl ao 3 tLot a2 a0 (fL xs ys)::L):=by
 have a7:=hy.2;refine Tri.bd ?_;refine Hz ?_;intros;refine GO.ca (iz ad2 n2 c2 ys a4 ab) ?_;rintro _ L ⟨rfl,rfl⟩;rw[aT hy];refine Hz ?_;intros;refine GO.ca (nl a1 n1 c1 xs ad2 n2 c2 ys a3 a4 hx hy) ?_;rintro _ _⟨a5,c3,rfl,rfl⟩;refine Hz ?_;intros;refine GO.ca (nl a1 n1 c1 xs a5 (fA xs ys).length c3 (fA xs ys) a3 rfl hx ⟨(jG hx.1 hy.1).1,hm⟩) ?_;rintro _ _⟨a6,c4,rfl,rfl⟩;refine Hz ?_;intros;have e:fL xs ys=fA xs (fA xs ys):=rfl;rw[e];refine KX.d7 an ?_ ⟨a6,c4,rfl,rfl⟩;exact ae
def pf{L:LH}(a0:OA)(n1 c1:Nat)(xs:LL)[Rds L a0 Lot ao 3 xs](ad2:OA)(n2 c2:Nat)(ys:LL)[Rds L ad2 Lot ao 3 ys](a1:n1=xs.length)(a2:n2=ys.length)(a5:n1≤9223372036854775807)(a3:n2≤9223372036854775807) :
  Tri ag 224 #[.slice a0 n1 c1,.slice ad2 n2 c2] L (fun v L'=>v=.bool (dB (fV xs ys))∧L' = L):=by
 refine Tri.bd ?_;refine Hz ?_;intros;refine GO.ca (iz a0 n1 c1 xs a1 a5) ?_;rintro _ L ⟨rfl,rfl⟩;refine Hz ?_;intros;refine GO.ca (iz ad2 n2 c2 ys a2 a3) ?_;rintro _ L ⟨rfl,rfl⟩;by_cases hx:fg xs
 case neg =>
  rw[aH hx];refine Hz ?_;intros;exact KX.d7 an ae ⟨by rw[aH (show ¬fV xs ys from fun q=>hx q.1)];rfl,rfl⟩
 rw[aT hx];by_cases hy:fg ys
 case neg =>
  rw[aH hy];refine Hz ?_;intros;exact KX.d7 an ae ⟨by rw[aH (show ¬fV xs ys from fun q=>hy q.2.1)];rfl,rfl⟩
 rw[aT hy];have a6:=(jG hx.1 hy.1).2;have a4:xs.length*(ys.length+1)≤4096*4097:=Nat.mul_le_mul hx.2 (by have:=hy.2;omega);refine Hz ?_;intros;refine GO.ca (nl a0 n1 c1 xs ad2 n2 c2 ys a1 a2 hx hy) ?_;rintro _ _⟨a7,c3,rfl,rfl⟩;refine Hz ?_;intros;refine KX.d7 an ae ⟨?_,rfl⟩;by_cases h0:fA xs ys=[]
 ·rw[aT (show((fA xs ys).length:Int)=0 by rw[h0];rfl),aT (show fV xs ys from⟨hx,hy,h0⟩)];rfl
 ·rw[aH (show ¬((fA xs ys).length:Int)=0 from fun q=>h0 (aW ab)),aH (show ¬fV xs ys from fun q=>h0 q.2.2)];rfl
