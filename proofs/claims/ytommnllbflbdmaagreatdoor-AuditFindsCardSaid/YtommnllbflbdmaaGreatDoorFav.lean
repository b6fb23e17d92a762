/- Lemmas. -/
import Derived.Test.YtommnllbflbdmaaGreatDoorFat
set_option linter.all false
set_option maxHeartbeats 2000000
namespace Go.Proofs.YtommnllbflbdmaaGreatDoor
section
open Go.V
attribute [local irreducible] G GO GP GPW GPK Ev Ef EfR Ent CB GB V.Enters
def setL(l:LL):LL:=l.foldl insL []
def iq{α β:Type}(f:β→α→β)(b:β)[Inhabited α]{l:List α}{i:Nat}(h:i<l.length):(l.take (i+1)).foldl f b=f ((l.take i).foldl f b) l[i]!:=by
 rw[aG h,cv,getElem!_of h];rfl
def nq{l:LL}(h:∀x∈l,LotOk x):∀i,i≤l.length→(setL (l.take i)).length≤i∧∀x∈setL (l.take i),LotOk x
 | 0,_=>⟨aB _,(fun _ q=>by cases q)⟩
 | i+1,hi=>by
  obtain⟨h1,h2⟩:=nq h i ab;have e:setL (l.take (i+1))=insL (setL (l.take i)) l[i]!:=iq insL [] ab;rw[e];obtain⟨h3,h4⟩:=II (h _ (aJ (ab:i<l.length))) h2;exact⟨ab,h4⟩
def lD{l:LL}(h:∀x∈l,LotOk x):(setL l).length≤l.length∧∀x∈setL l,LotOk x:=by
 have:=nq h l.length (aB _)
 rwa [bC] at this
def apart(y z:Lot):Prop:=y.1≠z.1∨y.2.1+y.2.2≤z.2.1∨z.2.1+z.2.2≤y.2.1
def Apart(l:LL):Prop:=l.Pairwise apart
def subS(x y:Lot):LL :=
 if y.1≠x.1∨x.2.1+x.2.2≤y.2.1∨y.2.1+y.2.2≤x.2.1 then[y]
 else(if y.2.1<x.2.1 then[(x.1,y.2.1,x.2.1 - y.2.1)] else[])++(if x.2.1+x.2.2<y.2.1+y.2.2 then[(x.1,x.2.1+x.2.2,y.2.1+y.2.2 - x.2.1 - x.2.2)] else[])
def subL(l:LL)(x:Lot):LL:=l.flatMap (subS x)
def lC{x y p:Lot}(hx:LotOk x)(hy:LotOk y)(hp:p∈subS x y):LotOk p∧p.1=y.1∧y.2.1≤p.2.1∧p.2.1+p.2.2≤y.2.1+y.2.2:=by
 unfold LotOk at hx hy;unfold subS at hp;split at hp
 ·rw[List.mem_singleton.1 hp];exact⟨hy,rfl,bB _,bB _⟩
 ·rename_i hn;rcases List.mem_append.1 hp with hp|hp
  ·split at hp
   ·rw[List.mem_singleton.1 hp];unfold LotOk;dsimp only;omega
   ·cases hp
  ·split at hp
   ·rw[List.mem_singleton.1 hp];unfold LotOk;dsimp only;omega
   ·cases hp
def CH{x:Lot}(y:Lot)(hx:0≤x.2.2):Apart (subS x y):=by
 unfold Apart subS;split
 ·exact bH _ _
 ·rename_i hn;split
  ·split
   ·refine List.pairwise_cons.2 ⟨fun z hz=>?_,bH _ _⟩;rw[List.mem_singleton.1 hz];unfold apart;dsimp only;omega
   ·exact bH _ _
  ·split
   ·exact bH _ _
   ·exact List.Pairwise.nil
def wR(x y:Lot):(subS x y).length≤2:=by
 unfold subS;split
 ·exact bP 1
 ·rw[aq];split<;>split<;>simp
def kM{x:Lot}:∀{l:LL},(∀z∈l,apart z x)→subL l x=l
 | [],_=>rfl
 | z::l,h=>by
  have e:subL (z::l) x=subS x z++subL l x:=bI
  have e1:subS x z=[z]:=by
   unfold subS;have:=h z au
   unfold apart at this;rw[if_pos];omega
  rw[e,e1,kM (fun y hy=>h y (aw _ hy))];rfl
def mN{x:Lot}{l:LL}(hx:LotOk x)(hl:∀y∈l,LotOk y){p:Lot}(hp:p∈subL l x):∃y∈l,LotOk p∧p.1=y.1∧y.2.1≤p.2.1∧p.2.1+p.2.2≤y.2.1+y.2.2:=by
 obtain⟨y,hy,hp⟩:=List.mem_flatMap.1 hp;exact⟨y,hy,lC hx (hl y hy) hp⟩
def nZ{x:Lot}{l:LL}(hx:LotOk x)(hl:∀y∈l,LotOk y):∀p∈subL l x,LotOk p:=fun p hp=>by
 obtain⟨_,_,h,_⟩:=mN hx hl hp;exact h
def mD{x:Lot}(hx:LotOk x):∀{l:LL},(∀y∈l,LotOk y)→Apart l→Apart (subL l x)∧(subL l x).length≤l.length+1
 | [],_,_=>⟨List.Pairwise.nil,ax _⟩
 | y::l,hl,ha=>by
  obtain⟨a1,a2⟩:=List.pairwise_cons.1 ha;have a0:∀z∈l,LotOk z:=fun z hz=>hl z (aw _ hz);obtain⟨i1,i2⟩:=mD hx a0 a2;have e:subL (y::l) x=subS x y++subL l x:=bI;have hy:=hl y au;rw[e];refine⟨List.pairwise_append.2 ⟨CH y (by unfold LotOk at hx;omega),i1,fun p hp q hq=>?_⟩,?_⟩
  ·obtain⟨_,p1,p2,p3⟩:=lC hx hy hp;obtain⟨z,hz,_,q1,q2,q3⟩:=mN hx a0 hq;have:=a1 z hz
   unfold apart at this ⊢;omega
  ·rw[aq,bD];by_cases h2:(subS x y).length≤1
   ·omega
   ·have a3:y.1=x.1∧y.2.1<x.2.1∧x.2.1+x.2.2<y.2.1+y.2.2:=by
     unfold subS at h2;split at h2
     ·exact absurd (aB 1) h2
     ·rename_i hn;split at h2
      ·split at h2
       ·omega
       ·exact absurd (aB 1) h2
      ·split at h2
       ·exact absurd (aB 1) h2
       ·exact absurd (ax 1) h2
    rw[kM (l:=l) (fun z hz=>by
     have h3:=a1 z hz;have h4:=a0 z hz;unfold LotOk at hx h4;unfold apart at h3 ⊢;omega)]
    have:=wR x y
    omega
def eQ(set:LL)(y:Lot):LL:=set.foldl subL [y]
def oN{set:LL}{y:Lot}(hs:∀x∈set,LotOk x)(hy:LotOk y):∀i,i≤set.length→(∀p∈eQ (set.take i) y,LotOk p)∧Apart (eQ (set.take i) y)∧(eQ (set.take i) y).length≤i+1
 | 0,_=>⟨fun p hp=>by rw[List.mem_singleton.1 hp];exact hy,bH _ _,aB _⟩
 | i+1,hi=>by
  obtain⟨h1,h2,h3⟩:=oN hs hy i ab;have e:eQ (set.take (i+1)) y=subL (eQ (set.take i) y) set[i]!:=iq subL [y] ab;rw[e];have hx:=hs _ (aJ (ab:i<set.length));obtain⟨h4,h5⟩:=mD hx h1 h2;exact⟨nZ hx h1,h4,ab⟩
def mY{set:LL}{y:Lot}(hs:∀x∈set,LotOk x)(hy:LotOk y):(∀p∈eQ set y,LotOk p)∧Apart (eQ set y)∧(eQ set y).length≤set.length+1:=by
 have:=oN hs hy set.length (aB _)
 rwa [bC] at this
def dS(s set:LL):LL:=s.foldl (fun out y=>(eQ set y).foldl aZ out) []
def si{r out:LL}(hr:∀p∈r,LotOk p)(ho:∀p∈out,LotOk p):∀i,i≤r.length→(∀p∈(r.take i).foldl aZ out,LotOk p)∧((r.take i).foldl aZ out).length≤out.length+i
 | 0,_=>⟨ho,aB _⟩
 | i+1,hi=>by
  obtain⟨h1,h2⟩:=si hr ho i ab;rw[iq aZ out ab];have hx:=hr _ (aJ (ab:i<r.length));have:=kU ((r.take i).foldl aZ out) r[i]!
  refine⟨oX h1 ?_,ab⟩;unfold LotOk at hx;unfold LotW;omega
def oB{s set:LL}(h:∀x∈s,LotOk x)(hs:∀x∈set,LotOk x):∀i,i≤s.length→(∀p∈dS (s.take i) set,LotOk p)∧(dS (s.take i) set).length≤i*(set.length+1)
 | 0,_=>⟨(fun _ q=>by cases q),ax _⟩
 | i+1,hi=>by
  obtain⟨h1,h2⟩:=oB h hs i ab;have e:dS (s.take (i+1)) set=(eQ set s[i]!).foldl aZ (dS (s.take i) set):=iq (fun out y=>(eQ set y).foldl aZ out) [] ab;obtain⟨r1,_,r3⟩:=mY hs (h _ (aJ (ab:i<s.length)));have h3:=si r1 h1 (eQ set s[i]!).length (aB _);rw[bC] at h3;rw[e];refine⟨h3.1,?_⟩;have h4:=h3.2;have e2:(i+1)*(set.length+1)=i*(set.length+1)+(set.length+1):=Nat.succ_mul _ _;omega
def wJ{s set:LL}(h:∀x∈s,LotOk x)(hs:∀x∈set,LotOk x):(∀p∈dS s set,LotOk p)∧(dS s set).length≤s.length*(set.length+1):=by
 have:=oB h hs s.length (aB _)
 rwa [bC] at this
def gr(a b:LL):LL:=dS (setL a) b
def gQ(a b:LL):LL:=gr a (gr a b)
def fx(a b:LL):Prop:=dQ a∧dQ b∧gr a b=[]
instance (a b:LL):Decidable (fx a b):=by unfold fx;infer_instance
def kR{a b:LL}(ha:∀x∈a,LotOk x)(hb:∀x∈b,LotOk x):(∀p∈gr a b,LotOk p)∧(gr a b).length≤a.length*(b.length+1):=by
 obtain⟨h1,h2⟩:=lD ha;obtain⟨h3,h4⟩:=wJ h2 hb;exact⟨h3,cO h4 (dG _ h1)⟩
def rz{L:LH}(ad:OA)(n c:Nat)(xs:LL)[Rds L ad Lot aj 3 xs](hn:n=xs.length)(hv:dQ xs) :
  Tri ai 223 #[ah ad n c] L (fun v L'=>∃a1 a0,v=ah a1 (setL xs).length a0∧L' = osl aj 3 tLot a1 a0 (setL xs)::L):=by
 subst hn;obtain⟨hx,hl⟩:=hv;have a5:=nq hx;refine Tri.bd ?_;refine JM ?_;intros;refine GO.ca (iJ ad xs.length c xs rfl ab) ?_;rintro _ L ⟨rfl,rfl⟩;rw[aU (show dQ xs from⟨hx,hl⟩)];refine JM ?_;intros;refine G.loop (α:=Nat×OA×Nat) (fun g=>g.1≤xs.length) (fun g=>[(0,ah ad xs.length c),(3,ah g.2.1 (setL (xs.take g.1)).length g.2.2),(4,.bool true),(5,ac (g.1:Int))]) (fun g=>osl aj 3 tLot g.2.1 g.2.2 (setL (xs.take g.1))::L) (fun g=>xs.length - g.1) (0,none,0) (ax _) av (Ent.d8 aj 3 tLot) ?_;rintro⟨i,a2,c1⟩ hi;dsimp only at hi ⊢;obtain⟨h1,h2⟩:=a5 i hi;by_cases a3:i<xs.length
 case neg =>
  obtain rfl:i=xs.length:=ab;rw[bC];refine JM ?_;intros;exact KX.en ⟨a2,c1,rfl,rfl⟩
 have a4:(i:Int).toNat=i:=ab;have e:setL (xs.take (i+1))=insL (setL (xs.take i)) xs[i]!:=iq insL [] a3;have a6:=hx _ (aJ a3);refine JM ?_;intros;rw[a4];refine GO.ca (xn a2 (setL (xs.take i)).length c1 (setL (xs.take i)) xs[i]! rfl ab h2 a6) ?_;rintro _ _⟨ad2,c2,rfl,rfl⟩;refine JM ?_;intros;refine⟨(i+1,ad2,c2),by dsimp only;omega,by dsimp only;omega,?_,?_⟩
 ·dsimp only;rw[e,aY i];exact av
 ·dsimp only;rw[e];exact ag
abbrev Dx:=aH2 [.ev 10,.ev 11]
abbrev Dw:=aH4 [.ev 17,.ev 18,.ev 19,.ev 20,.ev 21,.ev 22]
def Pf{φ ψ:Prop}(k:ψ)(h:Hid ψ→φ:=by intro k;(repeat (first|refine aa ?_|intro zzz|refine G.dr 102 6 Dx ?_|refine G.dr 102 7 Dw ?_));(repeat revert zzz);exact Hid.out k):φ:=h ⟨k⟩
def Fo{L:LH}(ad:OA)(n c:Nat)(xs:LL)(x:Lot)[Rds L ad Lot aj 3 xs](hn:n=xs.length)(hl:xs.length≤100000)(a9:∀y∈xs,LotOk y)(hx:LotOk x) :
  Tri ai 270 #[ah ad n c,aO (aj x)] L (fun v L'=>∃a4 a0,v=ah a4 (subL xs x).length a0∧L' = osl aj 3 tLot a4 a0 (subL xs x)::L):=by
 subst hn;obtain⟨f,a,m⟩:=x;have a6:=hx;unfold LotOk at a6;dsimp only at a6
 have a2:∀i,i≤xs.length→(subL (xs.take i) (f,a,m)).length≤2*i:=by
  intro i;induction i with
  | zero=>intro _;exact aB _
  | succ i ih =>
   intro hi
   have e:subL (xs.take (i+1)) (f,a,m)=subL (xs.take i) (f,a,m)++subS (f,a,m) xs[i]!:=by
    unfold subL;rw[aG ab,dg,getElem!_of ab];simp
   have:=wR (f,a,m) xs[i]!
   have:=ih ab
   rw[e,aq];omega
 refine Tri.bd (args:=[ah ad xs.length c,aO (aj (f,a,m))]) ?_;simp only[aj];refine Pf ?_;intros;rename_i b3
 refine G.loop (α:=Nat×OA×Nat) (fun g=>g.1≤xs.length) (fun g=>[(0,ah ad xs.length c),(3,ay b3),(5,ah g.2.1 (subL (xs.take g.1) (f,a,m)).length g.2.2),(6,ac (g.1:Int))])
  (fun g=>osl aj 3 tLot g.2.1 g.2.2 (subL (xs.take g.1) (f,a,m))::obj b3 tLot [ac f,ac a,ac m]::L) (fun g=>xs.length - g.1) (0,none,0) (ax _) av ((Ent.d8 aj 3 tLot).trans ag) ?_
 rintro⟨i,a5,c1⟩ hi;dsimp only at hi ⊢;have b0:=a2 i hi;by_cases b1:i<xs.length
 case neg =>
  obtain rfl:i=xs.length:=ab;rw[bC];refine Pf ?_;intros;exact KX.en ⟨a5,c1,rfl,rfl⟩
 have a3 : (i:Int).toNat<xs.length:=ab;have a8:(i:Int).toNat=i:=ab
 have e:subL (xs.take (i+1)) (f,a,m)=subL (xs.take i) (f,a,m)++subS (f,a,m) xs[(i:Int).toNat]!:=by
  unfold subL;rw[a8,aG ab,dg,getElem!_of ab];simp
 have hy:=a9 _ (aJ a3);generalize subL (xs.take i) (f,a,m)=z at *;obtain⟨y,b2⟩:∃y,xs[(i:Int).toNat]! = y:=⟨_,rfl⟩;unfold LotOk at hy;unfold subS at e;have back:∀(zs:LL) (ad3:OA) (cap3:Nat),subL (xs.take (i+1)) (f,a,m)=zs→True:=fun _ _ _ _=>trivial;by_cases h1:xs[(i:Int).toNat]!.1=f
 case neg =>
  rw[if_pos (.inl h1)] at e;refine Pf ?_;intros;refine GO.ef (Ef.d7 (enc:=aj) xs[(i:Int).toNat]! rfl rfl rfl rfl rfl aK (bX _) ab ab) ae ?_;rintro _ _⟨ad3,cap3,rfl,rfl⟩;refine Pf ?_;intros;refine⟨(i+1,ad3,cap3),by dsimp only;omega,by dsimp only;omega,?_,?_⟩
  ·dsimp only;rw[e,aY i];exact av
  ·dsimp only;rw[e];exact ag
 by_cases h2:a+m≤xs[(i:Int).toNat]!.2.1
 case pos =>
  rw[if_pos (.inr (.inl h2))] at e;refine Pf ?_;intros;refine GO.ef (Ef.d7 (enc:=aj) xs[(i:Int).toNat]! rfl rfl rfl rfl rfl aK (bX _) ab ab) ae ?_;rintro _ _⟨ad3,cap3,rfl,rfl⟩;refine Pf ?_;intros;refine⟨(i+1,ad3,cap3),by dsimp only;omega,by dsimp only;omega,?_,?_⟩
  ·dsimp only;rw[e,aY i];exact av
  ·dsimp only;rw[e];exact ag
 by_cases h3:xs[(i:Int).toNat]!.2.1+xs[(i:Int).toNat]!.2.2≤a
 case pos =>
  rw[if_pos (.inr (.inr h3))] at e;refine Pf ?_;intros;refine GO.ef (Ef.d7 (enc:=aj) xs[(i:Int).toNat]! rfl rfl rfl rfl rfl aK (bX _) ab ab) ae ?_;rintro _ _⟨ad3,cap3,rfl,rfl⟩;refine Pf ?_;intros;refine⟨(i+1,ad3,cap3),by dsimp only;omega,by dsimp only;omega,?_,?_⟩
  ·dsimp only;rw[e,aY i];exact av
  ·dsimp only;rw[e];exact ag
 rw[if_neg (fun q=>q.elim (fun q=>q h1) (fun q=>q.elim h2 h3))] at e;dsimp only at e;by_cases h4:xs[(i:Int).toNat]!.2.1<a
 ·rw[if_pos h4] at e;by_cases h5:a+m<xs[(i:Int).toNat]!.2.1+xs[(i:Int).toNat]!.2.2
  ·rw[if_pos h5] at e;refine Pf ?_;intros;refine GO.ef (Ef.d7 (enc:=aj) (f,xs[(i:Int).toNat]!.2.1,a - xs[(i:Int).toNat]!.2.1) rfl rfl rfl rfl rfl aK (bX _) ab ab) ae ?_;rintro _ _⟨ad3,cap3,rfl,rfl⟩;refine Pf ?_;intros;refine GO.ef (Ef.d7 (enc:=aj) (f,a+m,xs[(i:Int).toNat]!.2.1+xs[(i:Int).toNat]!.2.2 - a - m) rfl rfl rfl ce rfl aK (bX _) eh eh) ae ?_;rintro _ _⟨a7,a1,rfl,rfl⟩;refine Pf ?_;intros;refine⟨(i+1,a7,a1),by dsimp only;omega,by dsimp only;omega,?_,?_⟩
   ·dsimp only;rw[e,←aF,aY i];exact av
   ·dsimp only;rw[e,←aF];exact ag
  ·rw[if_neg h5,aR] at e;refine Pf ?_;intros;refine GO.ef (Ef.d7 (enc:=aj) (f,xs[(i:Int).toNat]!.2.1,a - xs[(i:Int).toNat]!.2.1) rfl rfl rfl rfl rfl aK (bX _) ab ab) ae ?_;rintro _ _⟨ad3,cap3,rfl,rfl⟩;refine Pf ?_;intros;refine⟨(i+1,ad3,cap3),by dsimp only;omega,by dsimp only;omega,?_,?_⟩
   ·dsimp only;rw[e,aY i];exact av
   ·dsimp only;rw[e];exact ag
 ·rw[if_neg h4,al] at e;by_cases h5:a+m<xs[(i:Int).toNat]!.2.1+xs[(i:Int).toNat]!.2.2
  ·rw[if_pos h5] at e;refine Pf ?_;intros;refine GO.ef (Ef.d7 (enc:=aj) (f,a+m,xs[(i:Int).toNat]!.2.1+xs[(i:Int).toNat]!.2.2 - a - m) rfl rfl rfl rfl rfl aK (bX _) ab ab) ae ?_;rintro _ _⟨ad3,cap3,rfl,rfl⟩;refine Pf ?_;intros;refine⟨(i+1,ad3,cap3),by dsimp only;omega,by dsimp only;omega,?_,?_⟩
   ·dsimp only;rw[e,aY i];exact av
   ·dsimp only;rw[e];exact ag
  ·rw[if_neg h5,aR] at e;refine Pf ?_;intros;refine⟨(i+1,a5,c1),by dsimp only;omega,by dsimp only;omega,?_,?_⟩
   ·dsimp only;rw[e,aY i];exact av
   ·dsimp only;rw[e];exact ag
def pF{L:LH}(a0:OA)(n1 c1:Nat)(xs:LL)[Rds L a0 Lot aj 3 xs](ad2:OA)(n2 c2:Nat)(ys:LL)[Rds L ad2 Lot aj 3 ys](b6:n1=xs.length)(b7:n2=ys.length)(hx:dQ xs)(hy:dQ ys) :
  Tri ai 225 #[ah a0 n1 c1,ah ad2 n2 c2] L (fun v L'=>∃a8 a1,v=ah a8 (dS xs ys).length a1∧L' = osl aj 3 tLot a8 a1 (dS xs ys)::L):=by
 subst b6 b7;obtain⟨a7,c9⟩:=hx;obtain⟨a3,d0⟩:=hy;have c8:=oB a7 a3;refine Tri.bd ?_;refine JM ?_;intros;refine GO.ca (iJ a0 xs.length c1 xs rfl ab) ?_;rintro _ L ⟨rfl,rfl⟩;rw[aU (show dQ xs from⟨a7,c9⟩)];refine JM ?_;intros;refine GO.ca (iJ ad2 ys.length c2 ys rfl ab) ?_;rintro _ L ⟨rfl,rfl⟩;rw[aU (show dQ ys from⟨a3,d0⟩)];refine JM ?_;intros;refine G.loop (α:=Nat×OA×Nat) (fun g=>g.1≤xs.length) (fun g=>[(0,ah a0 xs.length c1),(1,ah ad2 ys.length c2),(7,ah g.2.1 (dS (xs.take g.1) ys).length g.2.2),(8,ac (g.1:Int))]) (fun g=>osl aj 3 tLot g.2.1 g.2.2 (dS (xs.take g.1) ys)::L) (fun g=>xs.length - g.1) (0,none,0) (ax _) av (Ent.d8 aj 3 tLot) ?_;rintro⟨i,ad3,c3⟩ hi;dsimp only at hi ⊢;obtain⟨w1,w2⟩:=c8 i hi;have b5:i*(ys.length+1)≤4096*4097:=Nat.mul_le_mul ab ab;by_cases a9:i<xs.length
 case neg =>
  obtain rfl:i=xs.length:=ab;rw[bC];refine JM ?_;intros;exact KX.en ⟨ad3,c3,rfl,rfl⟩
 have b3:(i:Int).toNat=i:=ab;have b4 : (i:Int).toNat<xs.length:=ab;have b1:=a7 _ (aJ a9);have e:dS (xs.take (i+1)) ys=(eQ ys xs[i]!).foldl aZ (dS (xs.take i) ys):=iq (fun out y=>(eQ ys y).foldl aZ out) [] a9;have b0:=oN a3 b1;have c7:=mY a3 b1;refine JM ?_;intros;rw[b3];rename_i b9;generalize dS (xs.take i) ys=out at *;generalize xs[i]! = y at *;refine G.ent (L':=osl aj 3 tLot (some ⟨b9,0,none⟩) 1 [y]::osl aj 3 tLot ad3 c3 out::L) ?_ ?_
 ·refine Ent.trans (B:=obj b9 tLot (aj y)::osl aj 3 tLot ad3 c3 out::L) ag ?_;exact Ent.f7 (enc:=aj) (sz:=3) (xs:=[y]) ce rfl (by intro z hz;rw[List.mem_singleton.1 hz];rfl) ce
 refine JM ?_;intros;refine G.loop (α:=Nat×OA×Nat) (fun g=>g.1≤ys.length) (fun g=>[(0,ah a0 xs.length c1),(1,ah ad2 ys.length c2),(7,ah ad3 out.length c3),(8,ac (i:Int)),(9,ah g.2.1 (eQ (ys.take g.1) y).length g.2.2),(10,ac (g.1:Int))]) (fun g=>osl aj 3 tLot g.2.1 g.2.2 (eQ (ys.take g.1) y)::osl aj 3 tLot ad3 c3 out::L) (fun g=>ys.length - g.1) (0,some ⟨b9,0,none⟩,1) (ax _) av (Ent.refl _) ?_;rintro⟨k,a4,c4⟩ hk;dsimp only at hk ⊢;obtain⟨r1,_,r3⟩:=b0 k hk;by_cases a2:k<ys.length
 case pos =>
  have a6:(k:Int).toNat=k:=ab;have e2:eQ (ys.take (k+1)) y=subL (eQ (ys.take k) y) ys[k]!:=iq subL [y] a2;refine JM ?_;intros;rw[a6];refine GO.ca (Fo a4 (eQ (ys.take k) y).length c4 (eQ (ys.take k) y) ys[k]! rfl ab r1 (a3 _ (aJ a2))) ?_;rintro _ _⟨a5,c5,rfl,rfl⟩;refine JM ?_;intros;refine⟨(k+1,a5,c5),by dsimp only;omega,by dsimp only;omega,?_,?_⟩
  ·dsimp only;rw[e2,aY k];exact av
  ·dsimp only;rw[e2];exact ag
 obtain rfl:k=ys.length:=ab;rw[bC] at *;clear b0;obtain⟨_,_,r5⟩:=c7;generalize eQ ys y=r at *;have b8:=si r1 w1;refine JM ?_;intros;refine G.loop (α:=Nat×OA×Nat) (fun g=>g.1≤r.length) (fun g=>[(0,ah a0 xs.length c1),(1,ah ad2 ys.length c2),(7,ah g.2.1 ((r.take g.1).foldl aZ out).length g.2.2),(8,ac (i:Int)),(9,ah a4 r.length c4),(11,ac (g.1:Int))]) (fun g=>osl aj 3 tLot g.2.1 g.2.2 ((r.take g.1).foldl aZ out)::osl aj 3 tLot a4 c4 r::L) (fun g=>r.length - g.1) (0,ad3,c3) (ax _) av (by show Ent _ (osl aj 3 tLot ad3 c3 out::osl aj 3 tLot a4 c4 r::L);exact ag) ?_;rintro⟨k,a5,c5⟩ hk;dsimp only at hk ⊢;obtain⟨p1,p2⟩:=b8 k hk;by_cases a2:k<r.length
 case pos =>
  have a6:(k:Int).toNat=k:=ab;have e2:(r.take (k+1)).foldl aZ out=aZ ((r.take k).foldl aZ out) r[k]!:=iq aZ out a2;have c0:=r1 _ (aJ a2);unfold LotOk at c0;refine JM ?_;intros;rw[a6];refine GO.ca (lQ a5 ((r.take k).foldl aZ out).length c5 ((r.take k).foldl aZ out) r[k]! rfl ab (fun z hz=>by have:=p1 z hz;unfold LotOk at this;unfold LotW;omega) (by unfold LotW;omega)) ?_;rintro _ _⟨b2,c6,rfl,rfl⟩;refine JM ?_;intros;refine⟨(k+1,b2,c6),by dsimp only;omega,by dsimp only;omega,?_,?_⟩
  ·dsimp only;rw[e2,aY k];exact av
  ·dsimp only;rw[e2];exact ag
 obtain rfl:k=r.length:=ab;rw[bC];refine JM ?_;intros;refine⟨(i+1,a5,c5),by dsimp only;omega,by dsimp only;omega,?_,?_⟩
 ·dsimp only;rw[e,aY i];exact av
 ·dsimp only;rw[e];exact ag
def nM{L:LH}(a1:OA)(n1 c1:Nat)(xs:LL)[Rds L a1 Lot aj 3 xs](ad2:OA)(n2 c2:Nat)(ys:LL)[Rds L ad2 Lot aj 3 ys](a4:n1=xs.length)(a5:n2=ys.length)(hx:dQ xs)(hy:dQ ys) :
  Tri ai 145 #[ah a1 n1 c1,ah ad2 n2 c2] L (fun v L'=>∃a2 a0,v=ah a2 (gr xs ys).length a0∧L' = osl aj 3 tLot a2 a0 (gr xs ys)::L):=by
 refine Tri.bd ?_;have hs:=lD hx.1;have a6:=hx.2;refine JM ?_;intros;refine GO.ca (rz a1 n1 c1 xs a4 hx) ?_;rintro _ _⟨ad3,c3,rfl,rfl⟩;refine JM ?_;intros;refine GO.ca (pF ad3 (setL xs).length c3 (setL xs) ad2 n2 c2 ys rfl a5 ⟨hs.2,ab⟩ hy) ?_;rintro _ _⟨a3,c4,rfl,rfl⟩;refine JM ?_;intros;have e:gr xs ys=dS (setL xs) ys:=rfl;rw[e];refine KX.d7 an ?_ ⟨a3,c4,rfl,rfl⟩;exact ag
def tC{L:LH}(a1:OA)(n1 c1:Nat)(xs:LL)[Rds L a1 Lot aj 3 xs](ad2:OA)(n2 c2:Nat)(ys:LL)[Rds L ad2 Lot aj 3 ys](a3:n1=xs.length)(a4:n2=ys.length)(hx:dQ xs)(hy:dQ ys)(hm:(gr xs ys).length≤4096) :
  Tri ai 98 #[ah a1 n1 c1,ah ad2 n2 c2] L (fun v L'=>∃a2 a0,v=ah a2 (gQ xs ys).length a0∧L' = osl aj 3 tLot a2 a0 (gQ xs ys)::L):=by
 have a6:=hy.2;refine Tri.bd ?_;refine JM ?_;intros;refine GO.ca (iJ ad2 n2 c2 ys a4 ab) ?_;rintro _ L ⟨rfl,rfl⟩;rw[aU hy];refine JM ?_;intros;refine GO.ca (nM a1 n1 c1 xs ad2 n2 c2 ys a3 a4 hx hy) ?_;rintro _ _⟨ad3,c3,rfl,rfl⟩;refine JM ?_;intros;refine GO.ca (nM a1 n1 c1 xs ad3 (gr xs ys).length c3 (gr xs ys) a3 rfl hx ⟨(kR hx.1 hy.1).1,hm⟩) ?_;rintro _ _⟨a5,c4,rfl,rfl⟩;refine JM ?_;intros;have e:gQ xs ys=gr xs (gr xs ys):=rfl;rw[e];refine KX.d7 an ?_ ⟨a5,c4,rfl,rfl⟩;exact ag
def pV{L:LH}(a0:OA)(n1 c1:Nat)(xs:LL)[Rds L a0 Lot aj 3 xs](ad2:OA)(n2 c2:Nat)(ys:LL)[Rds L ad2 Lot aj 3 ys](a1:n1=xs.length)(a2:n2=ys.length)(a3:n1≤9223372036854775807)(a4:n2≤9223372036854775807) :
  Tri ai 224 #[ah a0 n1 c1,ah ad2 n2 c2] L (rtQ (.bool (dB (fx xs ys))) L):=by
 refine Tri.bd ?_;refine JM ?_;intros;refine GO.ca (iJ a0 n1 c1 xs a1 a3) ?_;rintro _ L ⟨rfl,rfl⟩;refine JM ?_;intros;refine GO.ca (iJ ad2 n2 c2 ys a2 a4) ?_;rintro _ L ⟨rfl,rfl⟩;by_cases hx:dQ xs
 case neg =>
  rw[aH hx];refine JM ?_;intros;exact KX.d7 an ag ⟨by rw[aH (show ¬fx xs ys from fun q=>hx q.1)];rfl,rfl⟩
 rw[aU hx];by_cases hy:dQ ys
 case neg =>
  rw[aH hy];refine JM ?_;intros;exact KX.d7 an ag ⟨by rw[aH (show ¬fx xs ys from fun q=>hy q.2.1)];rfl,rfl⟩
 rw[aU hy];have a6:=(kR hx.1 hy.1).2;have a5:xs.length*(ys.length+1)≤4096*4097:=Nat.mul_le_mul hx.2 (by have:=hy.2;omega);refine JM ?_;intros;refine GO.ca (nM a0 n1 c1 xs ad2 n2 c2 ys a1 a2 hx hy) ?_;rintro _ _⟨ad3,c3,rfl,rfl⟩;refine JM ?_;intros;refine KX.d7 an ag ⟨?_,rfl⟩;by_cases h0:gr xs ys=[]
 ·rw[aU (show((gr xs ys).length:Int)=0 by rw[h0];rfl),aU (show fx xs ys from⟨hx,hy,h0⟩)];rfl
 ·rw[aH (show ¬((gr xs ys).length:Int)=0 from fun q=>h0 (aX ab)),aH (show ¬fx xs ys from fun q=>h0 q.2.2)];rfl
def wQ(bv:Nat)(ad:OA)(c:Nat)(l:LL)(cs:Nat→Int)(hm:l.length≤1000000) :
  ul 301 [ay bv] l.length cs (fun _=>cS [obj bv 22 [ah ad l.length c],isl (encZ .i64) 1 ad ((List.range l.length).map cs)]):=by
 intro k hk L;have a0:(k:Int).toNat=k:=ab;have hl:((List.range l.length).map cs).length=l.length:=by simp
 refine Tri.bd (args:=[ac (k:Int),ay bv]) ?_;refine G.ent Ent.openS ?_;simp only[ao,al];refine JM ?_;intros;rw[a0,hJ hk];exact KX.d7 an (Ent.l6 (A:=[_,_]) (L:=L)) ⟨rfl,rfl⟩
def dZ{φ ψ:Prop}(k:ψ)(h:Hid ψ→φ:=by intro k;first|refine GO.ci (f:=299) (Hid.out k)|refine GPW.ci (f:=299) (Hid.out k)|refine GO.cf (f:=299) rfl (Hid.out k)|refine GPW.cf (f:=299) rfl (Hid.out k)|refine KX.inA (Hid.out k)):φ:=h ⟨k⟩
def aG5{φ ψ:Prop}(k:ψ)(h:Hid ψ→φ:=by intro k;(repeat (first|refine aa ?_|intro zzz|refine dZ ?_));(repeat revert zzz);exact Hid.out k):φ:=h ⟨k⟩
def CC{L:LH}(ad:OA)(c:Nat)(xs:LL)(hb:xs.length≤4096)(hx:∀l∈xs,LotOk l) :
  Tri ai 284 #[ah ad xs.length c,ac 0,.bool true] (isl aj 3 ad xs::L) (fun v L' =>
   (lsum xs<0∧v=.tuple #[ah none 0 0,ah none 0 0,ac 10]∧L' = isl aj 3 ad xs::L) ∨
   (0≤lsum xs∧∃a0 c1 ad2 c2,v=.tuple #[ah a0 (divF xs (fuC xs 0) xs.length).length c1,ah ad2 (divR xs (fuC xs 0) xs.length).length c2,ac 0]∧L' = osl aj 3 tLot a0 c1 (divF xs (fuC xs 0) xs.length)::osl aj 3 tLot ad2 c2 (divR xs (fuC xs 0) xs.length)::isl aj 3 ad xs::L)):=by
 have hw:∀x∈xs,LotW x:=fun x h=>(hx x h).w;have a1:=gZ hx xs.length (aB _);rw[im] at a1;refine Tri.bd ?_;refine aG5 ?_;intros;refine GO.cr (io ad xs.length c xs rfl hb hx) ?_;refine aG5 ?_;intros;refine GO.cr (lS ad xs.length c xs rfl hb hx) ?_;refine aG5 ?_;intros;rename_i bl bn;refine GO.ent (L':=cS (fuA bn bl ad c xs 0 0)::isl aj 3 ad xs::isl aj 3 ad xs::L) ?_ ?_
 ·refine Ent.trans ?_ Ent.l6;simp only[fuA,fuR,ao,al];refine(Ent.at (A:=isl aj 3 ad xs) (Ent.dup (kE _ _ _ _))).trans ?_;refine(Ent.dup (kE _ _ _ _)).trans ?_;exact ag
 (first|refine GO.ef (Ef.call (nW _ _ ad c xs (fuC xs 0) (fun k=>cS (fuA bn bl ad c xs 0 k)) ab hw (ow (bB _) hw) (vG bn bl ad c xs 0 ab (bB _) ae hw)) rfl cN) ae ?_);rintro _ _⟨_,⟨a0,c1,ad2,c2,rfl,rfl⟩,hL⟩;simp only[ao,al] at hL;subst hL;refine aG5 ?_;intros;exact KX.d7 an (Ent.refl _) (.inr ⟨ab,a0,c1,ad2,c2,rfl,rfl⟩)
def CD{L:LH}(ad:OA)(c:Nat)(xs:LL)(n:Int)(hb:xs.length≤4096)(hx:∀l∈xs,LotOk l)(a7:0<n)(a4:n≤1099511627776) :
  Tri ai 284 #[ah ad xs.length c,ac n,.bool true] (isl aj 3 ad xs::L) (fun v L' =>
   (lsum xs<n∧v=.tuple #[ah none 0 0,ah none 0 0,ac 10]∧L' = isl aj 3 ad xs::L) ∨
   (n≤lsum xs∧∃a0 c1 ad2 c2,v=.tuple #[ah a0 (divF xs (shC xs n) xs.length).length c1,ah ad2 (divR xs (shC xs n) xs.length).length c2,ac 0]∧L' = osl aj 3 tLot a0 c1 (divF xs (shC xs n) xs.length)::osl aj 3 tLot ad2 c2 (divR xs (shC xs n) xs.length)::isl aj 3 ad xs::L)):=by
 have hw:∀x∈xs,LotW x:=fun x h=>(hx x h).w;refine Tri.bd ?_;refine aG5 ?_;intros;refine GO.cr (io ad xs.length c xs rfl hb hx) ?_;refine aG5 ?_;intros;refine GO.cr (lS ad xs.length c xs rfl hb hx) ?_;by_cases hs:lsum xs<n
 ·refine aG5 ?_;intros;exact KX.d7 an (Ent.refl _) (.inl ⟨hs,rfl,rfl⟩)
 have a5:xs≠[]:=by
  rintro rfl;simp[lsum] at hs;omega
 refine aG5 ?_;intros;rename_i bl bn;refine GO.ent Ent.drop (GO.ent Ent.drop ?_);refine GO.ef (Ef.makeSlice (encZ .i64) 0 rfl rfl rfl ab ab ab) ae ?_;rintro _ _⟨bw,rfl,rfl⟩;rw[aC,←km xs.length (fun k=>xs[k]!.2.2)];repeat first|refine G.sm 8 ?_|refine bV ?_|intro _|refine GO.ci (f:=299) ?_|refine GPW.ci (f:=299) ?_|refine GO.cf (f:=299) rfl ?_|refine GPW.cf (f:=299) rfl ?_|refine KX.inA ?_
 refine G.d8 (α:=Unit) (fun _=>True) (fun _=>[(0,ah ad xs.length c),(1,ac n),(10,ah (some ⟨bw,0,none⟩) xs.length xs.length)]) (fun _=>isl (encZ .i64) 1 (some ⟨bw,0,none⟩) (wts xs)::isl aj 3 ad xs::L) ?_ ?_
 ·refine aG5 ?_;intros
  refine G.loop (α:=Nat) (fun i=>i≤xs.length) (fun i=>[(0,ah ad xs.length c),(1,ac n),(10,ah (some ⟨bw,0,none⟩) xs.length xs.length),(43,ah ad xs.length c),(44,ac xs.length),(45,ac (i:Int))])
   (fun i=>osl (encZ .i64) 1 tInt (some ⟨bw,0,none⟩) xs.length (gC xs.length i (fun k=>xs[k]!.2.2))::isl aj 3 ad xs::L) (fun i=>xs.length - i) 0 (ax _) av ag ?_
  intro i hi;have a6:=kd xs.length i (fun k=>xs[k]!.2.2);by_cases a3:i<xs.length
  case neg =>
   have a2:i=xs.length:=ab;subst a2
   have e:gC xs.length xs.length (fun k=>xs[k]!.2.2)=wts xs:=by
    rw[kZ];apply dd
    ·simp[wts]
    ·intro k h1 h2;have hk:k<xs.length:=by simpa using h1
     simp[wts,hk]
   rw[e];refine aG5 ?_;intros;exact⟨(),trivial,av,(Ent.frz (some ⟨bw,0,none⟩))⟩
  have a1:(i:Int).toNat=i:=ab;have h3:(gC xs.length i (fun k=>xs[k]!.2.2)).set i xs[i]!.2.2=gC xs.length (i+1) (fun k=>xs[k]!.2.2):=kY _ a3;refine aG5 ?_;intros;rw[a1,h3];refine⟨i+1,ab,ab,?_,by exact ag⟩;rw[aY i];exact av
 rintro _ _;refine aG5 ?_;intros;refine GO.ca (CI (some ⟨bw,0,none⟩) xs.length xs n hb hx a5 ab ab a4) ?_;rintro _ _⟨ad3,c3,rfl,rfl⟩;refine aG5 ?_;intros;rename_i bv;refine GO.ent (L':=cS [obj bv 22 [ah ad3 xs.length c3],isl (encZ .i64) 1 ad3 ((List.range xs.length).map (shC xs n))]::isl aj 3 ad xs::isl aj 3 ad xs::L) ?_ ?_
 ·refine(Ent.frz ad3).trans ?_;refine Ent.trans ?_ Ent.l6;simp only[ao,al];refine(Ent.at (A:=isl aj 3 ad xs) (Ent.dup (kE _ _ _ _))).trans ?_;exact ag
 (first|refine GO.ef (Ef.call (nW _ _ ad c xs (shC xs n) (fun _=>cS [obj bv 22 [ah ad3 xs.length c3],isl (encZ .i64) 1 ad3 ((List.range xs.length).map (shC xs n))]) ab hw (Fk hx ab ab) (wQ bv ad3 c3 xs (shC xs n) ab)) rfl cN) ae ?_);rintro _ _⟨_,⟨a0,c1,ad2,c2,rfl,rfl⟩,hL⟩;simp only[ao,al] at hL;subst hL;refine aG5 ?_;intros;exact KX.d7 an (Ent.refl _) (.inr ⟨ab,a0,c1,ad2,c2,rfl,rfl⟩)
def wu(mixed:Bool):TakeC mixed:=by
 cases mixed with
 | false=>exact zl
 | true =>
  refine⟨fun l n hl h0 h1 k hk=>nY true l n hl h0 h1 k hk,?_⟩;intro L ad c xs n h1 h2 h3 h4;rcases Int.lt_or_eq_of_le h3 with h5|h5
  ·have e:tkC true xs n=shC xs n:=if_pos ⟨rfl,h5⟩;unfold gW eU;rw[e];exact CD ad c xs n h1 h2 h5 h4
  ·subst h5;have e:tkC true xs 0=fuC xs 0:=if_neg (fun h=>absurd h.2 ab);unfold gW eU;rw[e];exact CC ad c xs h1 h2
structure StrS where
 l:List ByteArray
 ad:OA
 cap:Nat
 deriving Inhabited
structure NmOk (x:StrS):Prop where
 len:x.l.length≤64
 cap:x.l.length≤x.cap
 word:∀s∈x.l,IsWord s
 nd:x.l.Nodup
abbrev tRL:Nat:=37
structure RStk where
 acc:Int
 item:Int
 stk:Stk
 deriving Inhabited
def gY(s:RStk):LV:=[ac s.acc,ac s.item,ah s.stk.ad s.stk.lots.length s.stk.cap]
def qF(s:RStk):∀u∈gY s,u.oneCell' = true:=by simp[gY,Value.oneCell']
instance:EncC gY:=⟨qF⟩
abbrev rsP(s:RStk):HP:=stkP s.stk
def HV(s:RStk):PersM (rsP s):=mQ s.stk
abbrev tRS:Nat:=186
abbrev RStk.is(s:RStk)(a i:Int):Prop:=s.acc=a∧s.item=i
def stk0:Stk:=⟨none,0,[]⟩
def dR:List RStk→Int→Int→Stk
 | [],_,_=>stk0
 | s::l,a,i=>if s.is a i then s.stk else dR l a i
def rset:List RStk→Int→Int→Stk→List RStk
 | [],a,i,t=>[⟨a,i,t⟩]
 | s::l,a,i,t=>if s.is a i then⟨s.acc,s.item,t⟩::l else s::rset l a i t
def rsum:List RStk→Int→Int
 | [],_=>0
 | s::l,i=>(if s.item=i then lsum s.stk.lots else 0)+rsum l i
def oL:∀(l:List RStk) (a i:Int) (t:Stk) (a' i' : Int),dR (rset l a i t) a' i' = if a' = a∧i' = i then t else dR l a' i'
 | [],a,i,t,a',i'=>by
  unfold rset dR dR;by_cases h:a' = a∧i' = i
  ·rw[if_pos h,if_pos ⟨h.1.symm,h.2.symm⟩]
  ·rw[if_neg h,if_neg (fun q=>h ⟨q.1.symm,q.2.symm⟩)]
 | s::l,a,i,t,a',i'=>by
  unfold rset;by_cases h:s.is a i
  ·rw[if_pos h];unfold dR;by_cases h2:a' = a∧i' = i
   ·rw[if_pos h2,if_pos (show s.acc=a'∧s.item=i' from⟨h.1.trans h2.1.symm,h.2.trans h2.2.symm⟩)]
   ·rw[if_neg h2,if_neg (show ¬(s.acc=a'∧s.item=i') from fun q=>h2 ⟨q.1.symm.trans h.1,q.2.symm.trans h.2⟩),if_neg (show ¬s.is a' i' from fun q=>h2 ⟨q.1.symm.trans h.1,q.2.symm.trans h.2⟩)]
  ·rw[if_neg h];unfold dR;by_cases h3:s.is a' i'
   ·rw[if_pos h3,if_pos h3,if_neg (fun q=>h ⟨h3.1.trans q.1,h3.2.trans q.2⟩)]
   ·rw[if_neg h3,if_neg h3,oL l a i t a' i']
def pY:∀(l:List RStk) (a i:Int) (t:Stk) (j:Int),rsum (rset l a i t) j=rsum l j+(if j=i then lsum t.lots - lsum (dR l a i).lots else 0)
 | [],a,i,t,j=>by
  show(if i=j then lsum t.lots else 0)+0=0+(if j=i then lsum t.lots - 0 else 0);by_cases h:j=i
  ·rw[if_pos h,if_pos h.symm];omega
  ·rw[if_neg h,if_neg (fun q=>h q.symm)]
 | s::l,a,i,t,j=>by
  unfold rset dR;by_cases h:s.is a i
  ·rw[if_pos h,if_pos h];show(if s.item=j then lsum t.lots else 0)+rsum l j=((if s.item=j then lsum s.stk.lots else 0)+rsum l j)+_;rw[h.2];by_cases h2:j=i
   ·rw[if_pos h2.symm,if_pos h2.symm,if_pos h2];omega
   ·rw[if_neg (fun q=>h2 q.symm),if_neg (fun q=>h2 q.symm),if_neg h2];omega
  ·rw[if_neg h,if_neg h];show(if s.item=j then lsum s.stk.lots else 0)+rsum (rset l a i t) j=((if s.item=j then lsum s.stk.lots else 0)+rsum l j)+_;rw[pY l a i t j];omega
def sf:∀{l:List RStk} {a i:Int} {k:Nat},k<l.length→l[k]!.is a i→(∀j,j<k→¬l[j]!.is a i)→dR l a i=l[k]!.stk∧∀t,rset l a i t=l.set k ⟨l[k]!.acc,l[k]!.item,t⟩
 | [],_,_,_,h,_,_=>by simp at h
 | s::l,a,i,0,_,h1,_=>by
  have a0 : s.is a i:=h1;refine⟨?_,fun t=>?_⟩
  ·unfold dR;rw[if_pos a0];rfl
  ·unfold rset;rw[if_pos a0];rfl
 | s::l,a,i,k+1,h,h1,h2=>by
  have h0:¬s.is a i:=h2 0 (Nat.zero_lt_succ _);obtain⟨e1,e2⟩:=sf (l:=l) (a:=a) (i:=i) (k:=k) (by simpa using h) h1 (fun j hj=>h2 (j+1) ab);refine⟨?_,fun t=>?_⟩
  ·unfold dR;rw[if_neg h0,e1];rfl
  ·unfold rset;rw[if_neg h0,e2 t];rfl
def se:∀{l:List RStk} {a i:Int},(∀j,j<l.length→¬l[j]!.is a i)→dR l a i=stk0∧∀t,rset l a i t=l++[⟨a,i,t⟩]
 | [],_,_,_=>⟨rfl,fun _=>rfl⟩
 | s::l,a,i,h=>by
  have h0:¬s.is a i:=h 0 (Nat.zero_lt_succ _);obtain⟨e1,e2⟩:=se (l:=l) (a:=a) (i:=i) (fun j hj=>h (j+1) (by simp only[bD];omega));refine⟨?_,fun t=>?_⟩
  ·unfold dR;rw[if_neg h0,e1]
  ·unfold rset;rw[if_neg h0,e2 t];rfl
def sd:∀(l:List RStk) (a i:Int) (t:Stk),(rset l a i t).length≤l.length+1
 | [],_,_,_=>aB _
 | s::l,a,i,t=>by
  unfold rset;split
  ·simp
  ·have:=sd l a i t
   simp only[bD];omega
def rZ:∀{l:List RStk} {a i:Int} {t:Stk} {s:RStk},s∈rset l a i t→s∈l∨s.stk=t
 | [],_,_,_,_,h=>by
  obtain rfl:=List.mem_singleton.1 h;exact .inr rfl
 | u::l,a,i,t,s,h=>by
  unfold rset at h;split at h
  ·rcases List.mem_cons.1 h with h|h
   ·exact .inr (by rw[h])
   ·exact .inl (aw _ h)
  ·rcases List.mem_cons.1 h with h|h
   ·exact .inl (by rw[h];exact au ..)
   ·rcases rZ h with h|h
    ·exact .inl (aw _ h)
    ·exact .inr h
def qd:∀(l:List RStk) (a i:Int),dR l a i=stk0∨∃s∈l,dR l a i=s.stk
 | [],_,_=>.inl rfl
 | s::l,a,i=>by
  unfold dR;split
  ·exact .inr ⟨s,au ..,rfl⟩
  ·rcases qd l a i with h|⟨u,hu,h⟩
   ·exact .inl h
   ·exact .inr ⟨u,aw _ hu,h⟩
def og:∀(l:List RStk) (i:Int) {k:Nat},k<l.length→rsum (l.take (k+1)) i=rsum (l.take k) i+(if l[k]!.item=i then lsum l[k]!.stk.lots else 0)
 | [],_,_,h=>by simp at h
 | s::l,i,0,_=>by
  show(if s.item=i then lsum s.stk.lots else 0)+0=0+_;rw[gd,Int.zero_add];rfl
 | s::l,i,k+1,h=>by
  have:=og l i (k:=k) (by simpa using h)
  show(if s.item=i then lsum s.stk.lots else 0)+rsum (l.take (k+1)) i=((if s.item=i then lsum s.stk.lots else 0)+rsum (l.take k) i)+_;rw[this];show _+(_+(if l[k]!.item=i then lsum l[k]!.stk.lots else 0))=_+(if l[k]!.item=i then lsum l[k]!.stk.lots else 0);omega
def rOk(l:List RStk):Prop:=∀s∈l,s.stk.lots.length≤4096∧∀x∈s.stk.lots,LotOk x
def rg{l:LL}(h:∀x∈l,LotOk x):0≤lsum l:=by
 have:=(gZ h l.length (aB _)).1
 rw[im] at this;exact this
def ux:∀{l:List RStk} (i:Int),rOk l→0≤rsum l i
 | [],_,_=>bB _
 | s::l,i,h=>by
  have h1:=ux (l:=l) i (fun u hu=>h u (aw _ hu));have h2:=rg (h s au).2;unfold rsum;split<;>omega
def mX:∀{l:List RStk} (i:Int) (k:Nat),rOk l→rsum (l.take k) i≤rsum l i
 | [],_,k,_=>by simp
 | s::l,i,0,h=>ux i h
 | s::l,i,k+1,h=>by
  have:=mX (l:=l) i k (fun u hu=>h u (aw _ hu))
  show(if s.item=i then lsum s.stk.lots else 0)+rsum (l.take k) i≤(if s.item=i then lsum s.stk.lots else 0)+rsum l i;omega
structure RLX where
 cat:CatV
 stks:List RStk
 sad:OA
 scap:Nat
 flows:List FlV
 fad:OA
 fcap:Nat
 steps:List StV
 tad:OA
 tcap:Nat
abbrev aI(sh:Int)(x:RLX):LV:=[ac sh,ah x.cat.iad x.cat.items.length x.cat.icap,ah x.cat.rad x.cat.rules.length x.cat.rcap,ah x.cat.tad x.cat.tables.length x.cat.tcap,ah x.cat.xad x.cat.taxes.length x.cat.xcap,ah x.sad x.stks.length x.scap,ah x.fad x.flows.length x.fcap,ah x.tad x.steps.length x.tcap]
abbrev rlL(b:Nat)(sh:Int)(x:RLX)(L:LH):LH :=
 obj b tRL (aI sh x)::osl gY 3 tRS x.sad x.scap x.stks::osl aQ 11 bE x.fad x.fcap x.flows::osl aN 7 ba x.tad x.tcap x.steps::catP x.cat::allP rsP x.stks::allP flP x.flows::allP cH x.steps::L
abbrev CU:=aH3 [.ev 13]
def Pv{φ ψ:Prop}(k:ψ)(h:Hid ψ→φ:=by intro k;(repeat (first|refine aa ?_|intro zzz|refine G.dr 22 3 CU ?_));(repeat revert zzz);exact Hid.out k):φ:=h ⟨k⟩
def CM{L R:LH}{b:Nat}{sh:Int}{x:RLX}[hp:PickObj L b tRL (aI sh x) R][hr:Rds L x.tad StV aN 7 x.steps](hl:x.steps.length≤100000) :
  Tri ai 133 #[ay b] L (rtQ (ac ((x.steps.getLast?.map (·.tick)).getD 0)) L):=by
 refine Tri.bd ?_;by_cases h0:x.steps.length=0
 ·refine Pv ?_;intros;exact KX.d7 an (Ent.refl _) ⟨by rw[aX h0];rfl,rfl⟩
 ·refine Pv ?_;intros;refine KX.d7 an (Ent.refl _) ⟨?_,rfl⟩
  have e:x.steps.getLast? = some x.steps[((x.steps.length:Int) - 1).toNat]!:=by
   rw[show((x.steps.length:Int) - 1).toNat=x.steps.length - 1 by omega,List.getLast?_eq_getElem?,getElem!_of ab,List.getElem?_eq_getElem]
  rw[e];rfl
def tE{L R:LH}{b:Nat}{sh:Int}{x:RLX}[hp:PickObj L b tRL (aI sh x) R][hr:Rds L x.sad RStk gY 3 x.stks](a i:Int)(hl:x.stks.length≤100000000) :
  Tri ai 229 #[ay b,ac a,ac i] L (fun v L'=>((v=ac (-1)∧∀j,j<x.stks.length→¬x.stks[j]!.is a i)∨∃k:Nat,v=ac (k:Int)∧k<x.stks.length∧x.stks[k]!.is a i∧∀j,j<k→¬x.stks[j]!.is a i)∧L' = L):=by
 refine Tri.bd ?_;refine JM ?_;intros;refine G.loop (α:=Nat) (fun k=>k≤x.stks.length∧∀j,j<k→¬x.stks[j]!.is a i) (fun k=>[(0,ay b),(1,ac a),(2,ac i),(7,ac (k:Int))]) (fun _=>L) (fun k=>x.stks.length - k) 0 ⟨ax _,fun j hj=>absurd hj (cj j)⟩ av (Ent.refl _) ?_;rintro k ⟨hk,hb⟩;by_cases a1:k<x.stks.length
 case neg =>
  obtain rfl:k=x.stks.length:=ab;refine JM ?_;intros;exact KX.en ⟨.inl ⟨rfl,hb⟩,rfl⟩
 have a0:(k:Int).toNat=k:=aC k;have a2 : (k:Int).toNat<x.stks.length:=ab
 have next:¬x.stks[k]!.is a i→k+1≤x.stks.length∧∀j,j<k+1→¬x.stks[j]!.is a i:=fun hn=>⟨ab,fun j hj=>by
  rcases cm j k with h|h
  ·exact hb j h
  ·obtain rfl:j=k:=ab;exact hn⟩
 by_cases h1:x.stks[(k:Int).toNat]!.acc=a
 ·by_cases h2:x.stks[(k:Int).toNat]!.item=i
  ·refine JM ?_;intros;rw[a0] at h1 h2;exact KX.en ⟨.inr ⟨k,rfl,a1,⟨h1,h2⟩,hb⟩,rfl⟩
  ·refine JM ?_;intros;rw[a0] at h1 h2;refine⟨k+1,next (fun q=>h2 q.2),ab,?_,Ent.refl _⟩;rw[aY k];exact av
 ·refine JM ?_;intros;rw[a0] at h1;refine⟨k+1,next (fun q=>h1 q.1),ab,?_,Ent.refl _⟩;rw[aY k];exact av
def nL{L R:LH}{b:Nat}{sh:Int}{x:RLX}[hp:PickObj L b tRL (aI sh x) R][hr:Rds L x.sad RStk gY 3 x.stks](a i:Int)(hl:x.stks.length≤100000000) :
  Tri ai 141 #[ay b,ac a,ac i] L (rtQ (ah (dR x.stks a i).ad (dR x.stks a i).lots.length (dR x.stks a i).cap) L):=by
 refine Tri.bd ?_;refine JM ?_;intros;refine GO.ca (tE (b:=b) (sh:=sh) (x:=x) a i hl) ?_;rintro _ L ⟨⟨rfl,hn⟩|⟨k,rfl,hk,h1,h2⟩,rfl⟩
 ·rw[(se hn).1];refine JM ?_;intros;exact KX.en ⟨rfl,rfl⟩
 ·have a0:(k:Int).toNat=k:=aC k;rw[(sf hk h1 h2).1];refine JM ?_;intros;rw[a0];refine JM ?_;intros;exact KX.en ⟨rfl,rfl⟩
def HR{α:Type}{f:α→HP}(hf:∀x,PersM (f x)){l:List α}{k:Nat}{e:α}{L:LH}:Ent (f e::allP f l::L) (allP f (l.set k e)::L) :=
 (Ent.g8 hf).trans (Ent.j0 (fun _ hx=>by
  rcases dz hx with h|h
  ·exact aw _ h
  ·rw[h];exact au ..))
def nI{α:Type}{f:α→HP}(hf:∀x,PersM (f x)){l:List α}{e:α}{L:LH}:Ent (f e::allP f l::L) (allP f (l++[e])::L) :=
 (Ent.g8 hf).trans (Ent.j0 (fun x hx=>by
  rcases List.mem_append.1 hx with h|h
  ·exact aw _ h
  ·rw[List.mem_singleton.1 h];exact au ..))
def oK{L:LH}(b:Nat)(sh:Int)(x:RLX)(a i:Int)(t:Stk)(hl:x.stks.length≤10000000) :
  Tri ai 142 #[ay b,ac a,ac i,ah t.ad t.lots.length t.cap] (rlL b sh x (stkP t::L)) (fun _ L'=>∃a2 a0,L' = rlL b sh { x with stks:=rset x.stks a i t,sad:=a2,scap:=a0 } L):=by
 refine Tri.bd ?_;simp only[rlL];refine JM ?_;intros;refine GO.ca (tE (b:=b) (sh:=sh) (x:=x) a i ab) ?_;rintro _ _⟨⟨rfl,hn⟩|⟨k,rfl,hk,h1,h2⟩,rfl⟩
 ·have e:=(se hn).2 t;have a3:([ac a,ac i,ah t.ad t.lots.length t.cap]:LV)=gY ⟨a,i,t⟩:=rfl;refine JM ?_;intros;refine GO.ef (Ef.d7 (enc:=gY) (⟨a,i,t⟩:RStk) rfl rfl rfl rfl rfl aK (qF _) ab ab) ae ?_;rintro _ _⟨ad3,cap3,rfl,rfl⟩;refine JM ?_;intros;refine KX.d7 an ?_ ⟨ad3,cap3,rfl⟩;rw[e];simp only[rlL,aI];refine Ent.trans (B:=rsP ⟨a,i,t⟩::allP rsP x.stks::obj b tRL (aI sh { x with stks:=x.stks++[⟨a,i,t⟩],sad:=ad3,scap:=cap3 })::osl gY 3 tRS ad3 cap3 (x.stks++[⟨a,i,t⟩])::osl aQ 11 bE x.fad x.fcap x.flows::osl aN 7 ba x.tad x.tcap x.steps::catP x.cat::allP flP x.flows::allP cH x.steps::L) ?_ ((nI HV).trans ?_)
  ·simp only[rsP];exact ag
  ·exact ag
 ·have e:=(sf hk h1 h2).2 t;have a4:(k:Int).toNat=k:=aC k;have a5 : (k:Int).toNat<x.stks.length:=ab;refine JM ?_;intros;rw[a4];refine GO.efu (Ef.e9 (enc:=gY) (⟨x.stks[k]!.acc,x.stks[k]!.item,t⟩:RStk) rfl rfl rfl rfl hk ae) ?_;rintro _ _ rfl;refine JM ?_;intros;refine KX.e7 an ?_ ⟨x.sad,x.scap,rfl⟩;rw[e];have a1:(x.stks.set k ⟨x.stks[k]!.acc,x.stks[k]!.item,t⟩).length=x.stks.length:=bh ..;simp only[rlL,aI];rw[a1];refine Ent.trans (B:=rsP ⟨x.stks[k]!.acc,x.stks[k]!.item,t⟩::allP rsP x.stks::obj b tRL (aI sh x)::osl gY 3 tRS x.sad x.scap (x.stks.set k ⟨x.stks[k]!.acc,x.stks[k]!.item,t⟩)::osl aQ 11 bE x.fad x.fcap x.flows::osl aN 7 ba x.tad x.tcap x.steps::catP x.cat::allP flP x.flows::allP cH x.steps::L) ?_ ((HR HV (k:=k)).trans ?_)
  ·simp only[rsP];exact ag
  ·exact ag
def oM{l:List RStk}(h:rOk l)(a i:Int):(dR l a i).lots.length≤4096∧∀x∈(dR l a i).lots,LotOk x:=by
 rcases qd l a i with e|⟨s,hs,e⟩
 ·rw[e];exact⟨ax _,fun x hx=>by cases hx⟩
 ·rw[e];exact h s hs
def qe{l:List RStk}(a i:Int){L:LH}:Ent (allP rsP l::L) (stkP (dR l a i)::allP rsP l::L):=by
 rcases qd l a i with e|⟨s,hs,e⟩
 ·rw[e];exact Ent.e8 aj 3 none
 ·rw[e];exact Ent.e7 (f:=rsP) hs
def qh{L:LH}(b:Nat)(sh:Int)(x:RLX)(a i:Int)(hl:x.stks.length≤10000000)(hO:rOk x.stks) :
  Tri ai 132 #[ay b,ac a,ac i] (rlL b sh x L) (rtQ (ac (lsum (dR x.stks a i).lots)) (rlL b sh x L)):=by
 obtain⟨o1,o2⟩:=oM hO a i;refine Tri.bd ?_;simp only[rlL];refine JM ?_;intros;refine GO.cr (nL (b:=b) (sh:=sh) (x:=x) a i ab) ?_;refine GO.ent (Ent.at (A:=allP rsP x.stks) (qe a i)) ?_;refine JM ?_;intros;refine GO.cr (jD (dR x.stks a i).ad (dR x.stks a i).lots.length (dR x.stks a i).cap (dR x.stks a i).lots rfl o1 o2) ?_;refine JM ?_;intros;exact KX.en ⟨rfl,rfl⟩
def Fm{L:LH}(b:Nat)(sh:Int)(x:RLX)(i:Int)(hl:x.stks.length≤10000000)(hO:rOk x.stks)(hs:rsum x.stks i≤1099511627776) :
  Tri ai 139 #[ay b,ac i] (rlL b sh x L) (rtQ (ac (rsum x.stks i)) (rlL b sh x L)):=by
 refine Tri.bd ?_;simp only[rlL];refine JM ?_;intros;refine G.loop (α:=Nat) (fun k=>k≤x.stks.length) (fun k=>[(0,ay b),(1,ac i),(5,ac (rsum (x.stks.take k) i)),(6,ac (k:Int))]) (fun _=>rlL b sh x L) (fun k=>x.stks.length - k) 0 (ax _) av (Ent.refl _) ?_;intro k hk;simp only[rlL];by_cases a4:k<x.stks.length
 case neg =>
  obtain rfl:k=x.stks.length:=ab;rw[bC];refine JM ?_;intros;exact KX.en ⟨rfl,rfl⟩
 have a3:(k:Int).toNat=k:=aC k;have a5 : (k:Int).toNat<x.stks.length:=ab;have a1:=og x.stks i a4;have a6:=mX i k hO;have a7:=mX i (k+1) hO;have a8:0≤rsum (x.stks.take k) i:=ux i (fun u hu=>hO u (cc hu));have a0:=aJ a4;obtain⟨o1,o2⟩:=hO _ a0;have a9:=rg o2;by_cases h1:x.stks[(k:Int).toNat]!.item=i
 ·have a2 : x.stks[k]!.item=i:=by rw[←a3];exact h1
  rw[if_pos a2] at a1;refine JM ?_;intros;rw[a3];refine GO.ent (Ent.at (A:=allP rsP x.stks) (Ent.e7 (f:=rsP) a0)) ?_;refine GO.cr (jD x.stks[k]!.stk.ad x.stks[k]!.stk.lots.length x.stks[k]!.stk.cap x.stks[k]!.stk.lots rfl o1 o2) ?_;refine JM ?_;intros;refine⟨k+1,ab,ab,?_,by exact ag⟩;rw[aY k,a1];exact av
 ·have a2 : ¬x.stks[k]!.item=i:=by rw[←a3];exact h1
  rw[if_neg a2,gd] at a1;refine JM ?_;intros;refine⟨k+1,ab,ab,?_,by exact ag⟩;rw[aY k,a1];exact av
abbrev Fx:=aH1 [.ev 8,.ef 9,.ev 10]
abbrev Fw:=aH1 [.ev 8,.ef 9,.ev 10,.ev 11,.ef 12]
abbrev Fv:=aH1 [.ev 8,.ef 9,.ev 10,.ev 11,.ef 12]
abbrev Fu:=aH1 [.ev 8,.ef 9,.ev 10,.ev 11,.ef 12]
def Px{φ ψ:Prop}(k:ψ)(h:Hid ψ→φ:=by intro k;(repeat (first|refine aa ?_|intro zzz|refine G.dr 51 1 Fx ?_|refine G.dr 51 2 Fw ?_|refine G.dr 51 3 Fv ?_|refine G.dr 51 4 Fu ?_));(repeat revert zzz);exact Hid.out k):φ:=h ⟨k⟩
def zC{L:LH}(b:Nat)(sh:Int)(x:RLX)(h1:x.stks.length≤10000000)(h2:x.flows.length≤10000000)(h3:x.steps.length≤10000000) :
  Tri ai 93 #[ay b] (rlL b sh x L) (fun v L'=>∃b' x',v=.pointer (some ⟨b',0,none⟩)∧(x'.cat=x.cat∧x'.stks=x.stks∧x'.flows=x.flows∧x'.steps=x.steps)∧L' = obj b' tRL (aI sh x')::osl gY 3 tRS x'.sad x'.scap x'.stks::osl aQ 11 bE x'.fad x'.fcap x'.flows::rlL b sh x L):=by
 refine Tri.bd ?_;simp only[rlL];refine Px ?_;intros;rename_i b3;refine GPW.ent (Ent.d8 gY 3 tRS) ?_;refine GPW.ef (Ef.d9 (xs:=[]) rfl rfl rfl rfl rfl (fun e _=>qF e) eh eh) ae ?_;rintro _ _⟨a1,c1,rfl,rfl⟩;simp only[al];refine Px ?_;intros;refine GPW.ent (Ent.d8 aQ 11 bE) ?_;refine GPW.ef (Ef.d9 (xs:=[]) rfl rfl rfl rfl rfl (fun e _=>fZ e) eh eh) ae ?_;rintro _ _⟨a2,c2,rfl,rfl⟩;simp only[al];refine Px ?_;intros;refine GPW.ent (Ent.d8 aN 7 ba) ?_;refine GPW.ef (Ef.d9 (xs:=[]) rfl rfl rfl rfl rfl (fun e _=>jz e) eh eh) ae ?_;rintro _ _⟨a3,c3,rfl,rfl⟩;simp only[al];refine Px ?_;intros;refine KX.d7 an ?_ ⟨b3,⟨x.cat,x.stks,a1,c1,x.flows,a2,c2,x.steps,a3,c3⟩,rfl,⟨rfl,rfl,rfl,rfl⟩,rfl⟩;simp only[rlL,aI];exact ag
