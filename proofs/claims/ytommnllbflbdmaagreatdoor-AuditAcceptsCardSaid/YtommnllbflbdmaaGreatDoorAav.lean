/- Lemmas. -/
import Derived.Test.YtommnllbflbdmaaGreatDoorAau
set_option linter.all false
set_option maxHeartbeats 2000000
namespace Go.Proofs.YtommnllbflbdmaaGreatDoor
section
open Go.V
attribute [local irreducible] G GO GP GPW GPK Ev Ef EfR Ent CB GB V.Enters
def setL(l:LL):LL:=l.foldl insL []
def ix{α β:Type}(f:β→α→β)(b:β)[Inhabited α]{l:List α}{i:Nat}(h:i<l.length):(l.take (i+1)).foldl f b=f ((l.take i).foldl f b) l[i]!:=by
 rw[aD h,cv,getElem!_of h];rfl
def np{l:LL}(h:∀x∈l,LotOk x):∀i,i≤l.length→(setL (l.take i)).length≤i∧∀x∈setL (l.take i),LotOk x
 | 0,_=>⟨aB _,(fun _ q=>by cases q)⟩
 | i+1,hi=>by
  obtain⟨h1,h2⟩:=np h i ab;have e:setL (l.take (i+1))=insL (setL (l.take i)) l[i]!:=ix insL [] ab;rw[e];obtain⟨h3,h4⟩:=Iq (h _ (aI (ab:i<l.length))) h2;exact⟨ab,h4⟩
def lD{l:LL}(h:∀x∈l,LotOk x):(setL l).length≤l.length∧∀x∈setL l,LotOk x:=by
 have:=np h l.length (aB _)
 rwa [bu] at this
def apart(y z:Lot):Prop:=y.1≠z.1∨y.2.1+y.2.2≤z.2.1∨z.2.1+z.2.2≤y.2.1
def Apart(l:LL):Prop:=l.Pairwise apart
def subS(x y:Lot):LL :=
 if y.1≠x.1∨x.2.1+x.2.2≤y.2.1∨y.2.1+y.2.2≤x.2.1 then[y]
 else(if y.2.1<x.2.1 then[(x.1,y.2.1,x.2.1 - y.2.1)] else[])++(if x.2.1+x.2.2<y.2.1+y.2.2 then[(x.1,x.2.1+x.2.2,y.2.1+y.2.2 - x.2.1 - x.2.2)] else[])
def subL(l:LL)(x:Lot):LL:=l.flatMap (subS x)
def lC{x y p:Lot}(hx:LotOk x)(hy:LotOk y)(hp:p∈subS x y):LotOk p∧p.1=y.1∧y.2.1≤p.2.1∧p.2.1+p.2.2≤y.2.1+y.2.2:=by
 unfold LotOk at hx hy;unfold subS at hp;split at hp
 ·rw[List.mem_singleton.1 hp];exact⟨hy,rfl,bg _,bg _⟩
 ·rename_i hn;rcases List.mem_append.1 hp with hp|hp
  ·split at hp
   ·rw[List.mem_singleton.1 hp];unfold LotOk;dsimp only;omega
   ·cases hp
  ·split at hp
   ·rw[List.mem_singleton.1 hp];unfold LotOk;dsimp only;omega
   ·cases hp
def Cq{x:Lot}(y:Lot)(hx:0≤x.2.2):Apart (subS x y):=by
 unfold Apart subS;split
 ·exact bE _ _
 ·rename_i hn;split
  ·split
   ·refine List.pairwise_cons.2 ⟨fun z hz=>?_,bE _ _⟩;rw[List.mem_singleton.1 hz];unfold apart;dsimp only;omega
   ·exact bE _ _
  ·split
   ·exact bE _ _
   ·exact List.Pairwise.nil
def wE(x y:Lot):(subS x y).length≤2:=by
 unfold subS;split
 ·exact Nat.le_succ 1
 ·rw[ay];split<;>split<;>simp
def kP{x:Lot}:∀{l:LL},(∀z∈l,apart z x)→subL l x=l
 | [],_=>rfl
 | z::l,h=>by
  have e:subL (z::l) x=subS x z++subL l x:=bB
  have e1:subS x z=[z]:=by
   unfold subS;have:=h z aq
   unfold apart at this;rw[if_pos];omega
  rw[e,e1,kP (fun y hy=>h y (au _ hy))];rfl
def mN{x:Lot}{l:LL}(hx:LotOk x)(hl:∀y∈l,LotOk y){p:Lot}(hp:p∈subL l x):∃y∈l,LotOk p∧p.1=y.1∧y.2.1≤p.2.1∧p.2.1+p.2.2≤y.2.1+y.2.2:=by
 obtain⟨y,hy,hp⟩:=List.mem_flatMap.1 hp;exact⟨y,hy,lC hx (hl y hy) hp⟩
def nY{x:Lot}{l:LL}(hx:LotOk x)(hl:∀y∈l,LotOk y):∀p∈subL l x,LotOk p:=fun p hp=>by
 obtain⟨_,_,h,_⟩:=mN hx hl hp;exact h
def mE{x:Lot}(hx:LotOk x):∀{l:LL},(∀y∈l,LotOk y)→Apart l→Apart (subL l x)∧(subL l x).length≤l.length+1
 | [],_,_=>⟨List.Pairwise.nil,aw _⟩
 | y::l,hl,ha=>by
  obtain⟨a1,a2⟩:=List.pairwise_cons.1 ha;have a0:∀z∈l,LotOk z:=fun z hz=>hl z (au _ hz);obtain⟨i1,i2⟩:=mE hx a0 a2;have e:subL (y::l) x=subS x y++subL l x:=bB;have hy:=hl y aq;rw[e];refine⟨List.pairwise_append.2 ⟨Cq y (by unfold LotOk at hx;omega),i1,fun p hp q hq=>?_⟩,?_⟩
  ·obtain⟨_,p1,p2,p3⟩:=lC hx hy hp;obtain⟨z,hz,_,q1,q2,q3⟩:=mN hx a0 hq;have:=a1 z hz
   unfold apart at this ⊢;omega
  ·rw[ay,bh];by_cases h2:(subS x y).length≤1
   ·omega
   ·have a3:y.1=x.1∧y.2.1<x.2.1∧x.2.1+x.2.2<y.2.1+y.2.2:=by
     unfold subS at h2;split at h2
     ·exact absurd (aB 1) h2
     ·rename_i hn;split at h2
      ·split at h2
       ·omega
       ·exact absurd (aB 1) h2
      ·split at h2
       ·exact absurd (aB 1) h2
       ·exact absurd (aw 1) h2
    rw[kP (l:=l) (fun z hz=>by
     have h3:=a1 z hz;have h4:=a0 z hz;unfold LotOk at hx h4;unfold apart at h3 ⊢;omega)]
    have:=wE x y
    omega
def eM(set:LL)(y:Lot):LL:=set.foldl subL [y]
def oN{set:LL}{y:Lot}(hs:∀x∈set,LotOk x)(hy:LotOk y):∀i,i≤set.length→(∀p∈eM (set.take i) y,LotOk p)∧Apart (eM (set.take i) y)∧(eM (set.take i) y).length≤i+1
 | 0,_=>⟨fun p hp=>by rw[List.mem_singleton.1 hp];exact hy,bE _ _,aB _⟩
 | i+1,hi=>by
  obtain⟨h1,h2,h3⟩:=oN hs hy i ab;have e:eM (set.take (i+1)) y=subL (eM (set.take i) y) set[i]!:=ix subL [y] ab;rw[e];have hx:=hs _ (aI (ab:i<set.length));obtain⟨h4,h5⟩:=mE hx h1 h2;exact⟨nY hx h1,h4,ab⟩
def mZ{set:LL}{y:Lot}(hs:∀x∈set,LotOk x)(hy:LotOk y):(∀p∈eM set y,LotOk p)∧Apart (eM set y)∧(eM set y).length≤set.length+1:=by
 have:=oN hs hy set.length (aB _)
 rwa [bu] at this
def dP(s set:LL):LL:=s.foldl (fun out y=>(eM set y).foldl aY out) []
def se{r out:LL}(hr:∀p∈r,LotOk p)(ho:∀p∈out,LotOk p):∀i,i≤r.length→(∀p∈(r.take i).foldl aY out,LotOk p)∧((r.take i).foldl aY out).length≤out.length+i
 | 0,_=>⟨ho,aB _⟩
 | i+1,hi=>by
  obtain⟨h1,h2⟩:=se hr ho i ab;rw[ix aY out ab];have hx:=hr _ (aI (ab:i<r.length));have:=kY ((r.take i).foldl aY out) r[i]!
  refine⟨oW h1 ?_,ab⟩;unfold LotOk at hx;unfold LotW;omega
def oA{s set:LL}(h:∀x∈s,LotOk x)(hs:∀x∈set,LotOk x):∀i,i≤s.length→(∀p∈dP (s.take i) set,LotOk p)∧(dP (s.take i) set).length≤i*(set.length+1)
 | 0,_=>⟨(fun _ q=>by cases q),aw _⟩
 | i+1,hi=>by
  obtain⟨h1,h2⟩:=oA h hs i ab;have e:dP (s.take (i+1)) set=(eM set s[i]!).foldl aY (dP (s.take i) set):=ix (fun out y=>(eM set y).foldl aY out) [] ab;obtain⟨r1,_,r3⟩:=mZ hs (h _ (aI (ab:i<s.length)));have h3:=se r1 h1 (eM set s[i]!).length (aB _);rw[bu] at h3;rw[e];refine⟨h3.1,?_⟩;have h4:=h3.2;have e2:(i+1)*(set.length+1)=i*(set.length+1)+(set.length+1):=Nat.succ_mul _ _;omega
def wx{s set:LL}(h:∀x∈s,LotOk x)(hs:∀x∈set,LotOk x):(∀p∈dP s set,LotOk p)∧(dP s set).length≤s.length*(set.length+1):=by
 have:=oA h hs s.length (aB _)
 rwa [bu] at this
def gr(a b:LL):LL:=dP (setL a) b
def gL(a b:LL):LL:=gr a (gr a b)
def fF(a b:LL):Prop:=dM a∧dM b∧gr a b=[]
instance (a b:LL):Decidable (fF a b):=by unfold fF;infer_instance
def kX{a b:LL}(ha:∀x∈a,LotOk x)(hb:∀x∈b,LotOk x):(∀p∈gr a b,LotOk p)∧(gr a b).length≤a.length*(b.length+1):=by
 obtain⟨h1,h2⟩:=lD ha;obtain⟨h3,h4⟩:=wx h2 hb;exact⟨h3,cK h4 (dH _ h1)⟩
def rt{L:LH}(ad:OA)(n c:Nat)(xs:LL)[Rds L ad Lot aj 3 xs](hn:n=xs.length)(hv:dM xs) :
  Tri ai 223 #[ah ad n c] L (fun v L'=>∃a1 a0,v=ah a1 (setL xs).length a0∧L' = osl aj 3 tLot a1 a0 (setL xs)::L):=by
 subst hn;obtain⟨hx,hl⟩:=hv;have a4:=np hx;refine Tri.bd ?_;refine Jq ?_;intros;refine GO.ca (iU ad xs.length c xs rfl ab) ?_;rintro _ L ⟨rfl,rfl⟩;rw[aS (show dM xs from⟨hx,hl⟩)];refine Jq ?_;intros;refine G.loop (α:=Nat×OA×Nat) (fun g=>g.1≤xs.length) (fun g=>[(0,ah ad xs.length c),(3,ah g.2.1 (setL (xs.take g.1)).length g.2.2),(4,.bool true),(5,ac (g.1:Int))]) (fun g=>osl aj 3 tLot g.2.1 g.2.2 (setL (xs.take g.1))::L) (fun g=>xs.length - g.1) (0,none,0) (aw _) av (Ent.d8 aj 3 tLot) ?_;rintro⟨i,a3,c1⟩ hi;dsimp only at hi ⊢;obtain⟨h1,h2⟩:=a4 i hi;by_cases a2:i<xs.length
 case neg =>
  obtain rfl:i=xs.length:=ab;rw[bu];refine Jq ?_;intros;exact KX.en ⟨a3,c1,rfl,rfl⟩
 have a6:(i:Int).toNat=i:=ab;have e:setL (xs.take (i+1))=insL (setL (xs.take i)) xs[i]!:=ix insL [] a2;have a5:=hx _ (aI a2);refine Jq ?_;intros;rw[a6];refine GO.ca (wY a3 (setL (xs.take i)).length c1 (setL (xs.take i)) xs[i]! rfl ab h2 a5) ?_;rintro _ _⟨ad2,c2,rfl,rfl⟩;refine Jq ?_;intros;refine⟨(i+1,ad2,c2),by dsimp only;omega,by dsimp only;omega,?_,?_⟩
 ·dsimp only;rw[e,aV i];exact av
 ·dsimp only;rw[e];exact ae
abbrev Dh:=ay6 [.ev 10,.ev 11]
abbrev Dg:=ay8 [.ev 17,.ev 18,.ev 19,.ev 20,.ev 21,.ev 22]
def OI{φ ψ:Prop}(k:ψ)(h:Hid ψ→φ:=by intro k;(repeat (first|refine aa ?_|intro zzz|refine G.dr 102 6 Dh ?_|refine G.dr 102 7 Dg ?_));(repeat revert zzz);exact Hid.out k):φ:=h ⟨k⟩
def EZ{L:LH}(ad:OA)(n c:Nat)(xs:LL)(x:Lot)[Rds L ad Lot aj 3 xs](hn:n=xs.length)(hl:xs.length≤100000)(a9:∀y∈xs,LotOk y)(hx:LotOk x) :
  Tri ai 270 #[ah ad n c,aN (aj x)] L (fun v L'=>∃a6 a2,v=ah a6 (subL xs x).length a2∧L' = osl aj 3 tLot a6 a2 (subL xs x)::L):=by
 subst hn;obtain⟨f,a,m⟩:=x;have a8:=hx;unfold LotOk at a8;dsimp only at a8
 have a5:∀i,i≤xs.length→(subL (xs.take i) (f,a,m)).length≤2*i:=by
  intro i;induction i with
  | zero=>intro _;exact aB _
  | succ i ih =>
   intro hi
   have e:subL (xs.take (i+1)) (f,a,m)=subL (xs.take i) (f,a,m)++subS (f,a,m) xs[i]!:=by
    unfold subL;rw[aD ab,dd,getElem!_of ab];simp
   have:=wE (f,a,m) xs[i]!
   have:=ih ab
   rw[e,ay];omega
 refine Tri.bd (args:=[ah ad xs.length c,aN (aj (f,a,m))]) ?_;simp only[aj];refine OI ?_;intros;rename_i b3
 refine G.loop (α:=Nat×OA×Nat) (fun g=>g.1≤xs.length) (fun g=>[(0,ah ad xs.length c),(3,ax b3),(5,ah g.2.1 (subL (xs.take g.1) (f,a,m)).length g.2.2),(6,ac (g.1:Int))])
  (fun g=>osl aj 3 tLot g.2.1 g.2.2 (subL (xs.take g.1) (f,a,m))::obj b3 tLot [ac f,ac a,ac m]::L) (fun g=>xs.length - g.1) (0,none,0) (aw _) av ((Ent.d8 aj 3 tLot).trans ae) ?_
 rintro⟨i,a7,c1⟩ hi;dsimp only at hi ⊢;have b4:=a5 i hi;by_cases b2:i<xs.length
 case neg =>
  obtain rfl:i=xs.length:=ab;rw[bu];refine OI ?_;intros;exact KX.en ⟨a7,c1,rfl,rfl⟩
 have a3 : (i:Int).toNat<xs.length:=ab;have b1:(i:Int).toNat=i:=ab
 have e:subL (xs.take (i+1)) (f,a,m)=subL (xs.take i) (f,a,m)++subS (f,a,m) xs[(i:Int).toNat]!:=by
  unfold subL;rw[b1,aD ab,dd,getElem!_of ab];simp
 have hy:=a9 _ (aI a3);generalize subL (xs.take i) (f,a,m)=z at *;obtain⟨y,b5⟩:∃y,xs[(i:Int).toNat]! = y:=⟨_,rfl⟩;unfold LotOk at hy;unfold subS at e;have back:∀(zs:LL) (a1:OA) (a0:Nat),subL (xs.take (i+1)) (f,a,m)=zs→True:=fun _ _ _ _=>trivial;by_cases h1:xs[(i:Int).toNat]!.1=f
 case neg =>
  rw[if_pos (.inl h1)] at e;refine OI ?_;intros;refine GO.ef (Ef.d7 (enc:=aj) xs[(i:Int).toNat]! rfl rfl rfl rfl rfl aK (co _) ab ab) ag ?_;rintro _ _⟨a1,a0,rfl,rfl⟩;refine OI ?_;intros;refine⟨(i+1,a1,a0),by dsimp only;omega,by dsimp only;omega,?_,?_⟩
  ·dsimp only;rw[e,aV i];exact av
  ·dsimp only;rw[e];exact ae
 by_cases h2:a+m≤xs[(i:Int).toNat]!.2.1
 case pos =>
  rw[if_pos (.inr (.inl h2))] at e;refine OI ?_;intros;refine GO.ef (Ef.d7 (enc:=aj) xs[(i:Int).toNat]! rfl rfl rfl rfl rfl aK (co _) ab ab) ag ?_;rintro _ _⟨a1,a0,rfl,rfl⟩;refine OI ?_;intros;refine⟨(i+1,a1,a0),by dsimp only;omega,by dsimp only;omega,?_,?_⟩
  ·dsimp only;rw[e,aV i];exact av
  ·dsimp only;rw[e];exact ae
 by_cases h3:xs[(i:Int).toNat]!.2.1+xs[(i:Int).toNat]!.2.2≤a
 case pos =>
  rw[if_pos (.inr (.inr h3))] at e;refine OI ?_;intros;refine GO.ef (Ef.d7 (enc:=aj) xs[(i:Int).toNat]! rfl rfl rfl rfl rfl aK (co _) ab ab) ag ?_;rintro _ _⟨a1,a0,rfl,rfl⟩;refine OI ?_;intros;refine⟨(i+1,a1,a0),by dsimp only;omega,by dsimp only;omega,?_,?_⟩
  ·dsimp only;rw[e,aV i];exact av
  ·dsimp only;rw[e];exact ae
 rw[if_neg (fun q=>q.elim (fun q=>q h1) (fun q=>q.elim h2 h3))] at e;dsimp only at e;by_cases h4:xs[(i:Int).toNat]!.2.1<a
 ·rw[if_pos h4] at e;by_cases h5:a+m<xs[(i:Int).toNat]!.2.1+xs[(i:Int).toNat]!.2.2
  ·rw[if_pos h5] at e;refine OI ?_;intros;refine GO.ef (Ef.d7 (enc:=aj) (f,xs[(i:Int).toNat]!.2.1,a - xs[(i:Int).toNat]!.2.1) rfl rfl rfl rfl rfl aK (co _) ab ab) ag ?_;rintro _ _⟨a1,a0,rfl,rfl⟩;refine OI ?_;intros;refine GO.ef (Ef.d7 (enc:=aj) (f,a+m,xs[(i:Int).toNat]!.2.1+xs[(i:Int).toNat]!.2.2 - a - m) rfl rfl rfl bZ rfl aK (co _) fW fW) ag ?_;rintro _ _⟨b0,a4,rfl,rfl⟩;refine OI ?_;intros;refine⟨(i+1,b0,a4),by dsimp only;omega,by dsimp only;omega,?_,?_⟩
   ·dsimp only;rw[e,←aH,aV i];exact av
   ·dsimp only;rw[e,←aH];exact ae
  ·rw[if_neg h5,aQ] at e;refine OI ?_;intros;refine GO.ef (Ef.d7 (enc:=aj) (f,xs[(i:Int).toNat]!.2.1,a - xs[(i:Int).toNat]!.2.1) rfl rfl rfl rfl rfl aK (co _) ab ab) ag ?_;rintro _ _⟨a1,a0,rfl,rfl⟩;refine OI ?_;intros;refine⟨(i+1,a1,a0),by dsimp only;omega,by dsimp only;omega,?_,?_⟩
   ·dsimp only;rw[e,aV i];exact av
   ·dsimp only;rw[e];exact ae
 ·rw[if_neg h4,an] at e;by_cases h5:a+m<xs[(i:Int).toNat]!.2.1+xs[(i:Int).toNat]!.2.2
  ·rw[if_pos h5] at e;refine OI ?_;intros;refine GO.ef (Ef.d7 (enc:=aj) (f,a+m,xs[(i:Int).toNat]!.2.1+xs[(i:Int).toNat]!.2.2 - a - m) rfl rfl rfl rfl rfl aK (co _) ab ab) ag ?_;rintro _ _⟨a1,a0,rfl,rfl⟩;refine OI ?_;intros;refine⟨(i+1,a1,a0),by dsimp only;omega,by dsimp only;omega,?_,?_⟩
   ·dsimp only;rw[e,aV i];exact av
   ·dsimp only;rw[e];exact ae
  ·rw[if_neg h5,aQ] at e;refine OI ?_;intros;refine⟨(i+1,a7,c1),by dsimp only;omega,by dsimp only;omega,?_,?_⟩
   ·dsimp only;rw[e,aV i];exact av
   ·dsimp only;rw[e];exact ae
def pD{L:LH}(a1:OA)(n1 c1:Nat)(xs:LL)[Rds L a1 Lot aj 3 xs](ad2:OA)(n2 c2:Nat)(ys:LL)[Rds L ad2 Lot aj 3 ys](b6:n1=xs.length)(b4:n2=ys.length)(hx:dM xs)(hy:dM ys) :
  Tri ai 225 #[ah a1 n1 c1,ah ad2 n2 c2] L (fun v L'=>∃a9 a4,v=ah a9 (dP xs ys).length a4∧L' = osl aj 3 tLot a9 a4 (dP xs ys)::L):=by
 subst b6 b4;obtain⟨a7,c7⟩:=hx;obtain⟨a3,b3⟩:=hy;have c8:=oA a7 a3;refine Tri.bd ?_;refine Jq ?_;intros;refine GO.ca (iU a1 xs.length c1 xs rfl ab) ?_;rintro _ L ⟨rfl,rfl⟩;rw[aS (show dM xs from⟨a7,c7⟩)];refine Jq ?_;intros;refine GO.ca (iU ad2 ys.length c2 ys rfl ab) ?_;rintro _ L ⟨rfl,rfl⟩;rw[aS (show dM ys from⟨a3,b3⟩)];refine Jq ?_;intros;refine G.loop (α:=Nat×OA×Nat) (fun g=>g.1≤xs.length) (fun g=>[(0,ah a1 xs.length c1),(1,ah ad2 ys.length c2),(7,ah g.2.1 (dP (xs.take g.1) ys).length g.2.2),(8,ac (g.1:Int))]) (fun g=>osl aj 3 tLot g.2.1 g.2.2 (dP (xs.take g.1) ys)::L) (fun g=>xs.length - g.1) (0,none,0) (aw _) av (Ent.d8 aj 3 tLot) ?_;rintro⟨i,a0,c3⟩ hi;dsimp only at hi ⊢;obtain⟨w1,w2⟩:=c8 i hi;have b7:i*(ys.length+1)≤4096*4097:=Nat.mul_le_mul ab ab;by_cases b1:i<xs.length
 case neg =>
  obtain rfl:i=xs.length:=ab;rw[bu];refine Jq ?_;intros;exact KX.en ⟨a0,c3,rfl,rfl⟩
 have d0:(i:Int).toNat=i:=ab;have b5 : (i:Int).toNat<xs.length:=ab;have b2:=a7 _ (aI b1);have e:dP (xs.take (i+1)) ys=(eM ys xs[i]!).foldl aY (dP (xs.take i) ys):=ix (fun out y=>(eM ys y).foldl aY out) [] b1;have b0:=oN a3 b2;have d1:=mZ a3 b2;refine Jq ?_;intros;rw[d0];rename_i b9;generalize dP (xs.take i) ys=out at *;generalize xs[i]! = y at *;refine G.ent (L':=osl aj 3 tLot (some ⟨b9,0,none⟩) 1 [y]::osl aj 3 tLot a0 c3 out::L) ?_ ?_
 ·refine Ent.trans (B:=obj b9 tLot (aj y)::osl aj 3 tLot a0 c3 out::L) ae ?_;exact Ent.f7 (enc:=aj) (sz:=3) (xs:=[y]) bZ rfl (by intro z hz;rw[List.mem_singleton.1 hz];rfl) bZ
 refine Jq ?_;intros;refine G.loop (α:=Nat×OA×Nat) (fun g=>g.1≤ys.length) (fun g=>[(0,ah a1 xs.length c1),(1,ah ad2 ys.length c2),(7,ah a0 out.length c3),(8,ac (i:Int)),(9,ah g.2.1 (eM (ys.take g.1) y).length g.2.2),(10,ac (g.1:Int))]) (fun g=>osl aj 3 tLot g.2.1 g.2.2 (eM (ys.take g.1) y)::osl aj 3 tLot a0 c3 out::L) (fun g=>ys.length - g.1) (0,some ⟨b9,0,none⟩,1) (aw _) av (Ent.refl _) ?_;rintro⟨k,a6,c4⟩ hk;dsimp only at hk ⊢;obtain⟨r1,_,r3⟩:=b0 k hk;by_cases a2:k<ys.length
 case pos =>
  have a8:(k:Int).toNat=k:=ab;have e2:eM (ys.take (k+1)) y=subL (eM (ys.take k) y) ys[k]!:=ix subL [y] a2;refine Jq ?_;intros;rw[a8];refine GO.ca (EZ a6 (eM (ys.take k) y).length c4 (eM (ys.take k) y) ys[k]! rfl ab r1 (a3 _ (aI a2))) ?_;rintro _ _⟨a5,c5,rfl,rfl⟩;refine Jq ?_;intros;refine⟨(k+1,a5,c5),by dsimp only;omega,by dsimp only;omega,?_,?_⟩
  ·dsimp only;rw[e2,aV k];exact av
  ·dsimp only;rw[e2];exact ae
 obtain rfl:k=ys.length:=ab;rw[bu] at *;clear b0;obtain⟨_,_,r5⟩:=d1;generalize eM ys y=r at *;have b8:=se r1 w1;refine Jq ?_;intros;refine G.loop (α:=Nat×OA×Nat) (fun g=>g.1≤r.length) (fun g=>[(0,ah a1 xs.length c1),(1,ah ad2 ys.length c2),(7,ah g.2.1 ((r.take g.1).foldl aY out).length g.2.2),(8,ac (i:Int)),(9,ah a6 r.length c4),(11,ac (g.1:Int))]) (fun g=>osl aj 3 tLot g.2.1 g.2.2 ((r.take g.1).foldl aY out)::osl aj 3 tLot a6 c4 r::L) (fun g=>r.length - g.1) (0,a0,c3) (aw _) av (by show Ent _ (osl aj 3 tLot a0 c3 out::osl aj 3 tLot a6 c4 r::L);exact ae) ?_;rintro⟨k,a5,c5⟩ hk;dsimp only at hk ⊢;obtain⟨p1,p2⟩:=b8 k hk;by_cases a2:k<r.length
 case pos =>
  have a8:(k:Int).toNat=k:=ab;have e2:(r.take (k+1)).foldl aY out=aY ((r.take k).foldl aY out) r[k]!:=ix aY out a2;have c9:=r1 _ (aI a2);unfold LotOk at c9;refine Jq ?_;intros;rw[a8];refine GO.ca (lP a5 ((r.take k).foldl aY out).length c5 ((r.take k).foldl aY out) r[k]! rfl ab (fun z hz=>by have:=p1 z hz;unfold LotOk at this;unfold LotW;omega) (by unfold LotW;omega)) ?_;rintro _ _⟨c0,c6,rfl,rfl⟩;refine Jq ?_;intros;refine⟨(k+1,c0,c6),by dsimp only;omega,by dsimp only;omega,?_,?_⟩
  ·dsimp only;rw[e2,aV k];exact av
  ·dsimp only;rw[e2];exact ae
 obtain rfl:k=r.length:=ab;rw[bu];refine Jq ?_;intros;refine⟨(i+1,a5,c5),by dsimp only;omega,by dsimp only;omega,?_,?_⟩
 ·dsimp only;rw[e,aV i];exact av
 ·dsimp only;rw[e];exact ae
def nL{L:LH}(a1:OA)(n1 c1:Nat)(xs:LL)[Rds L a1 Lot aj 3 xs](ad2:OA)(n2 c2:Nat)(ys:LL)[Rds L ad2 Lot aj 3 ys](a5:n1=xs.length)(a3:n2=ys.length)(hx:dM xs)(hy:dM ys) :
  Tri ai 145 #[ah a1 n1 c1,ah ad2 n2 c2] L (fun v L'=>∃a2 a0,v=ah a2 (gr xs ys).length a0∧L' = osl aj 3 tLot a2 a0 (gr xs ys)::L):=by
 refine Tri.bd ?_;have hs:=lD hx.1;have a7:=hx.2;refine Jq ?_;intros;refine GO.ca (rt a1 n1 c1 xs a5 hx) ?_;rintro _ _⟨a4,c3,rfl,rfl⟩;refine Jq ?_;intros;refine GO.ca (pD a4 (setL xs).length c3 (setL xs) ad2 n2 c2 ys rfl a3 ⟨hs.2,ab⟩ hy) ?_;rintro _ _⟨a6,c4,rfl,rfl⟩;refine Jq ?_;intros;have e:gr xs ys=dP (setL xs) ys:=rfl;rw[e];refine KX.d7 al ?_ ⟨a6,c4,rfl,rfl⟩;exact ae
def tw{L:LH}(a1:OA)(n1 c1:Nat)(xs:LL)[Rds L a1 Lot aj 3 xs](ad2:OA)(n2 c2:Nat)(ys:LL)[Rds L ad2 Lot aj 3 ys](a4:n1=xs.length)(a3:n2=ys.length)(hx:dM xs)(hy:dM ys)(hm:(gr xs ys).length≤4096) :
  Tri ai 98 #[ah a1 n1 c1,ah ad2 n2 c2] L (fun v L'=>∃a2 a0,v=ah a2 (gL xs ys).length a0∧L' = osl aj 3 tLot a2 a0 (gL xs ys)::L):=by
 have a7:=hy.2;refine Tri.bd ?_;refine Jq ?_;intros;refine GO.ca (iU ad2 n2 c2 ys a3 ab) ?_;rintro _ L ⟨rfl,rfl⟩;rw[aS hy];refine Jq ?_;intros;refine GO.ca (nL a1 n1 c1 xs ad2 n2 c2 ys a4 a3 hx hy) ?_;rintro _ _⟨a5,c3,rfl,rfl⟩;refine Jq ?_;intros;refine GO.ca (nL a1 n1 c1 xs a5 (gr xs ys).length c3 (gr xs ys) a4 rfl hx ⟨(kX hx.1 hy.1).1,hm⟩) ?_;rintro _ _⟨a6,c4,rfl,rfl⟩;refine Jq ?_;intros;have e:gL xs ys=gr xs (gr xs ys):=rfl;rw[e];refine KX.d7 al ?_ ⟨a6,c4,rfl,rfl⟩;exact ae
def pS{L:LH}(a0:OA)(n1 c1:Nat)(xs:LL)[Rds L a0 Lot aj 3 xs](ad2:OA)(n2 c2:Nat)(ys:LL)[Rds L ad2 Lot aj 3 ys](a2:n1=xs.length)(a1:n2=ys.length)(a5:n1≤9223372036854775807)(a4:n2≤9223372036854775807) :
  Tri ai 224 #[ah a0 n1 c1,ah ad2 n2 c2] L (fun v L'=>v=.bool (dB (fF xs ys))∧L' = L):=by
 refine Tri.bd ?_;refine Jq ?_;intros;refine GO.ca (iU a0 n1 c1 xs a2 a5) ?_;rintro _ L ⟨rfl,rfl⟩;refine Jq ?_;intros;refine GO.ca (iU ad2 n2 c2 ys a1 a4) ?_;rintro _ L ⟨rfl,rfl⟩;by_cases hx:dM xs
 case neg =>
  rw[aG hx];refine Jq ?_;intros;exact KX.d7 al ae ⟨by rw[aG (show ¬fF xs ys from fun q=>hx q.1)];rfl,rfl⟩
 rw[aS hx];by_cases hy:dM ys
 case neg =>
  rw[aG hy];refine Jq ?_;intros;exact KX.d7 al ae ⟨by rw[aG (show ¬fF xs ys from fun q=>hy q.2.1)];rfl,rfl⟩
 rw[aS hy];have a7:=(kX hx.1 hy.1).2;have a3:xs.length*(ys.length+1)≤4096*4097:=Nat.mul_le_mul hx.2 (by have:=hy.2;omega);refine Jq ?_;intros;refine GO.ca (nL a0 n1 c1 xs ad2 n2 c2 ys a2 a1 hx hy) ?_;rintro _ _⟨a6,c3,rfl,rfl⟩;refine Jq ?_;intros;refine KX.d7 al ae ⟨?_,rfl⟩;by_cases h0:gr xs ys=[]
 ·rw[aS (show((gr xs ys).length:Int)=0 by rw[h0];rfl),aS (show fF xs ys from⟨hx,hy,h0⟩)];rfl
 ·rw[aG (show ¬((gr xs ys).length:Int)=0 from fun q=>h0 (aX ab)),aG (show ¬fF xs ys from fun q=>h0 q.2.2)];rfl
