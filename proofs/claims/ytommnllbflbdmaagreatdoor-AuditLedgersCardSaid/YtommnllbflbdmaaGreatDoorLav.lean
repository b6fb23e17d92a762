/- Lemmas. -/
import Derived.Test.YtommnllbflbdmaaGreatDoorLau
set_option linter.all false
set_option maxHeartbeats 2000000
namespace Go.Proofs.YtommnllbflbdmaaGreatDoor
section
open Go.V
attribute [local irreducible] G GO GP GPW GPK Ev Ef EfR Ent CB GB V.Enters
def setL(l:LL):LL:=l.foldl insL []
theorem ig{α β:Type}(f:β→α→β)(b:β)[Inhabited α]{l:List α}{i:Nat}(h:i<l.length):(l.take (i+1)).foldl f b=f ((l.take i).foldl f b) l[i]!:=by
 rw[aC h,cJ,getElem!_of h];rfl
theorem mw{l:LL}(h:∀x∈l,LotOk x):∀i,i≤l.length→(setL (l.take i)).length≤i∧∀x∈setL (l.take i),LotOk x
 | 0,_=>⟨aB _,(fun _ q=>by cases q)⟩
 | i+1,hi=>by
  obtain⟨h1,h2⟩:=mw h i ac;have e:setL (l.take (i+1))=insL (setL (l.take i)) l[i]!:=ig insL [] ac;rw[e];obtain⟨h3,h4⟩:=FU (h _ (aI (show i<l.length by omega))) h2;exact⟨ac,h4⟩
theorem kL{l:LL}(h:∀x∈l,LotOk x):(setL l).length≤l.length∧∀x∈setL l,LotOk x:=by
 have:=mw h l.length (aB _)
 rwa [bG] at this
def apart(y z:Lot):Prop:=y.1≠z.1∨y.2.1+y.2.2≤z.2.1∨z.2.1+z.2.2≤y.2.1
def Apart(l:LL):Prop:=l.Pairwise apart
def subS(x y:Lot):LL :=
 if y.1≠x.1∨x.2.1+x.2.2≤y.2.1∨y.2.1+y.2.2≤x.2.1 then[y]
 else(if y.2.1<x.2.1 then[(x.1,y.2.1,x.2.1 - y.2.1)] else[])++(if x.2.1+x.2.2<y.2.1+y.2.2 then[(x.1,x.2.1+x.2.2,y.2.1+y.2.2 - x.2.1 - x.2.2)] else[])
def subL(l:LL)(x:Lot):LL:=l.flatMap (subS x)
theorem lP{x y p:Lot}(hx:LotOk x)(hy:LotOk y)(hp:p∈subS x y):LotOk p∧p.1=y.1∧y.2.1≤p.2.1∧p.2.1+p.2.2≤y.2.1+y.2.2:=by
 unfold LotOk at hx hy;unfold subS at hp;split at hp
 ·rw[List.mem_singleton.1 hp];exact⟨hy,rfl,bu _,bu _⟩
 ·rename_i hn;rcases List.mem_append.1 hp with hp|hp
  ·split at hp
   ·rw[List.mem_singleton.1 hp];unfold LotOk;dsimp only;omega
   ·cases hp
  ·split at hp
   ·rw[List.mem_singleton.1 hp];unfold LotOk;dsimp only;omega
   ·cases hp
theorem Al{x:Lot}(y:Lot)(hx:0≤x.2.2):Apart (subS x y):=by
 unfold Apart subS;split
 ·exact cR _ _
 ·rename_i hn;split
  ·split
   ·refine List.pairwise_cons.2 ⟨fun z hz=>?_,cR _ _⟩;rw[List.mem_singleton.1 hz];unfold apart;dsimp only;omega
   ·exact cR _ _
  ·split
   ·exact cR _ _
   ·exact List.Pairwise.nil
theorem vn(x y:Lot):(subS x y).length≤2:=by
 unfold subS;split
 ·exact bN 1
 ·rw[az];split<;>split<;>simp
theorem ke{x:Lot}:∀{l:LL},(∀z∈l,apart z x)→subL l x=l
 | [],_=>rfl
 | z::l,h=>by
  have e:subL (z::l) x=subS x z++subL l x:=bY
  have e1:subS x z=[z]:=by
   unfold subS;have:=h z aw
   unfold apart at this;rw[if_pos];omega
  rw[e,e1,ke (fun y hy=>h y (av _ hy))];rfl
theorem na{x:Lot}{l:LL}(hx:LotOk x)(hl:∀y∈l,LotOk y){p:Lot}(hp:p∈subL l x):∃y∈l,LotOk p∧p.1=y.1∧y.2.1≤p.2.1∧p.2.1+p.2.2≤y.2.1+y.2.2:=by
 obtain⟨y,hy,hp⟩:=List.mem_flatMap.1 hp;exact⟨y,hy,lP hx (hl y hy) hp⟩
theorem pF{x:Lot}{l:LL}(hx:LotOk x)(hl:∀y∈l,LotOk y):∀p∈subL l x,LotOk p:=fun p hp=>by
 obtain⟨_,_,h,_⟩:=na hx hl hp;exact h
theorem lE{x:Lot}(hx:LotOk x):∀{l:LL},(∀y∈l,LotOk y)→Apart l→Apart (subL l x)∧(subL l x).length≤l.length+1
 | [],_,_=>⟨List.Pairwise.nil,ao _⟩
 | y::l,hl,ha=>by
  obtain⟨a1,a2⟩:=List.pairwise_cons.1 ha;have hl2:∀z∈l,LotOk z:=fun z hz=>hl z (av _ hz);obtain⟨i1,i2⟩:=lE hx hl2 a2;have e:subL (y::l) x=subS x y++subL l x:=bY;have hy:=hl y aw;rw[e];refine⟨List.pairwise_append.2 ⟨Al y (by unfold LotOk at hx;omega),i1,fun p hp q hq=>?_⟩,?_⟩
  ·obtain⟨_,p1,p2,p3⟩:=lP hx hy hp;obtain⟨z,hz,_,q1,q2,q3⟩:=na hx hl2 hq;have:=a1 z hz
   unfold apart at this ⊢;omega
  ·rw[az,bD];by_cases h2:(subS x y).length≤1
   ·omega
   ·have hin:y.1=x.1∧y.2.1<x.2.1∧x.2.1+x.2.2<y.2.1+y.2.2:=by
     unfold subS at h2;split at h2
     ·exact absurd (aB 1) h2
     ·rename_i hn;split at h2
      ·split at h2
       ·omega
       ·exact absurd (aB 1) h2
      ·split at h2
       ·exact absurd (aB 1) h2
       ·exact absurd (ao 1) h2
    rw[ke (l:=l) (fun z hz=>by
     have h3:=a1 z hz;have h4:=hl2 z hz;unfold LotOk at hx h4;unfold apart at h3 ⊢;omega)]
    have:=vn x y
    omega
def fx(set:LL)(y:Lot):LL:=set.foldl subL [y]
theorem nI{set:LL}{y:Lot}(hs:∀x∈set,LotOk x)(hy:LotOk y):∀i,i≤set.length→(∀p∈fx (set.take i) y,LotOk p)∧Apart (fx (set.take i) y)∧(fx (set.take i) y).length≤i+1
 | 0,_=>⟨fun p hp=>by rw[List.mem_singleton.1 hp];exact hy,cR _ _,aB _⟩
 | i+1,hi=>by
  obtain⟨h1,h2,h3⟩:=nI hs hy i ac;have e:fx (set.take (i+1)) y=subL (fx (set.take i) y) set[i]!:=ig subL [y] ac;rw[e];have hx:=hs _ (aI (show i<set.length by omega));obtain⟨h4,h5⟩:=lE hx h1 h2;exact⟨pF hx h1,h4,ac⟩
theorem vF{set:LL}{y:Lot}(hs:∀x∈set,LotOk x)(hy:LotOk y):(∀p∈fx set y,LotOk p)∧Apart (fx set y)∧(fx set y).length≤set.length+1:=by
 have:=nI hs hy set.length (aB _)
 rwa [bG] at this
def eh(s set:LL):LL:=s.foldl (fun out y=>(fx set y).foldl be out) []
theorem qK{r out:LL}(hr:∀p∈r,LotOk p)(ho:∀p∈out,LotOk p):∀i,i≤r.length→(∀p∈(r.take i).foldl be out,LotOk p)∧((r.take i).foldl be out).length≤out.length+i
 | 0,_=>⟨ho,aB _⟩
 | i+1,hi=>by
  obtain⟨h1,h2⟩:=qK hr ho i ac;rw[ig be out ac];have hx:=hr _ (aI (show i<r.length by omega));have:=kj ((r.take i).foldl be out) r[i]!
  refine⟨nR h1 ?_,ac⟩;unfold LotOk at hx;unfold LotW;omega
theorem nu{s set:LL}(h:∀x∈s,LotOk x)(hs:∀x∈set,LotOk x):∀i,i≤s.length→(∀p∈eh (s.take i) set,LotOk p)∧(eh (s.take i) set).length≤i*(set.length+1)
 | 0,_=>⟨(fun _ q=>by cases q),ao _⟩
 | i+1,hi=>by
  obtain⟨h1,h2⟩:=nu h hs i ac;have e:eh (s.take (i+1)) set=(fx set s[i]!).foldl be (eh (s.take i) set):=ig (fun out y=>(fx set y).foldl be out) [] ac;obtain⟨r1,_,r3⟩:=vF hs (h _ (aI (show i<s.length by omega)));have h3:=qK r1 h1 (fx set s[i]!).length (aB _);rw[bG] at h3;rw[e];refine⟨h3.1,?_⟩;have h4:=h3.2;have e2:(i+1)*(set.length+1)=i*(set.length+1)+(set.length+1):=Nat.succ_mul _ _;omega
theorem vg{s set:LL}(h:∀x∈s,LotOk x)(hs:∀x∈set,LotOk x):(∀p∈eh s set,LotOk p)∧(eh s set).length≤s.length*(set.length+1):=by
 have:=nu h hs s.length (aB _)
 rwa [bG] at this
def fF(a b:LL):LL:=eh (setL a) b
def ge(a b:LL):LL:=fF a (fF a b)
def fT(a b:LL):Prop:=eZ a∧eZ b∧fF a b=[]
instance (a b:LL):Decidable (fT a b):=by unfold fT;infer_instance
theorem ki{a b:LL}(ha:∀x∈a,LotOk x)(hb:∀x∈b,LotOk x):(∀p∈fF a b,LotOk p)∧(fF a b).length≤a.length*(b.length+1):=by
 obtain⟨h1,h2⟩:=kL ha;obtain⟨h3,h4⟩:=vg h2 hb;exact⟨h3,cB h4 (dz _ h1)⟩
theorem qe{L:LH}(ad:OA)(n c:Nat)(xs:LL)[Rds L ad Lot an 3 xs](hn:n=xs.length)(hv:eZ xs) :
  Tri ah 223 #[.slice ad n c] L (fun v L'=>∃ad' cap',v=.slice ad' (setL xs).length cap'∧L' = osl an 3 tLot ad' cap' (setL xs)::L):=by
 subst hn;obtain⟨hx,hl⟩:=hv;have hst:=mw hx;refine Tri.body (args:=[.slice ad xs.length c]) 24 In Tryz.func223 rfl rfl rfl (by simp) ?_;repeat first|refine aa ?_|intro
 refine GO.ef (Ef.d7 (ip ad xs.length c xs rfl ac) rfl) ae ?_;rintro _ L ⟨rfl,rfl⟩;rw[aU (show eZ xs from⟨hx,hl⟩)];repeat first|refine aa ?_|intro
 refine G.loop (α:=Nat×OA×Nat) (fun g=>g.1≤xs.length) (fun g=>[(0,.slice ad xs.length c),(3,.slice g.2.1 (setL (xs.take g.1)).length g.2.2),(4,.bool true),(5,ab (g.1:Int))]) (fun g=>osl an 3 tLot g.2.1 g.2.2 (setL (xs.take g.1))::L) (fun g=>xs.length - g.1) (0,none,0) (ao _) aj (Ent.d8 an 3 tLot) ?_;rintro⟨i,ad1,c1⟩ hi;dsimp only at hi ⊢;obtain⟨h1,h2⟩:=hst i hi;by_cases hlt:i<xs.length
 case neg =>
  obtain rfl:i=xs.length:=ac;rw[bG];repeat first|refine aa ?_|intro
  exact KX.d7 ai (Ent.refl _) ⟨ad1,c1,rfl,rfl⟩
 have hii:(i:Int).toNat=i:=ac;have e:setL (xs.take (i+1))=insL (setL (xs.take i)) xs[i]!:=ig insL [] hlt;have hxi:=hx _ (aI hlt);repeat first|refine aa ?_|intro
 rw[hii];refine GO.ef (Ef.d7 (vD ad1 (setL (xs.take i)).length c1 (setL (xs.take i)) xs[i]! rfl ac h2 hxi) rfl) ae ?_;rintro _ _⟨ad2,c2,rfl,rfl⟩;repeat first|refine aa ?_|intro
 refine⟨(i+1,ad2,c2),by dsimp only;omega,by dsimp only;omega,?_,?_⟩
 ·dsimp only;rw[e,aP i];exact aj
 ·dsimp only;rw[e];exact ag
abbrev Be:List Stp:=[.ev 0,.ev 1,.ev 2,.ev 3,.ev 4,.ev 5,.ev 6,.ev 7,.ev 8,.ev 9,.ev 10,.ev 11]
abbrev Bd:List Stp:=[.ev 0,.ev 1,.ev 2,.ev 3,.ev 4,.ev 5,.ev 6,.ev 7,.ev 8,.ev 9,.ev 10,.ev 11,.ev 12,.ev 13,.ev 14,.ev 15,.ev 16,.ev 17,.ev 18,.ev 19,.ev 20,.ev 21,.ev 22]
theorem cZ{φ ψ:Prop}(k:ψ)(h:Hid ψ→φ:=by intro k;(with_reducible apply G.d8);first|refine G.d7 (N:=102) (id:=6) Be mixed ap (Hid.out k)|refine G.d7 (N:=102) (id:=7) Bd mixed ap (Hid.out k)):φ:=h ⟨k⟩
theorem Ct{L:LH}(ad:OA)(n c:Nat)(xs:LL)(x:Lot)[Rds L ad Lot an 3 xs](hn:n=xs.length)(hl:xs.length≤100000)(hxs:∀y∈xs,LotOk y)(hx:LotOk x) :
  Tri ah 270 #[.slice ad n c,.agg (an x).toArray] L (fun v L'=>∃ad' cap',v=.slice ad' (subL xs x).length cap'∧L' = osl an 3 tLot ad' cap' (subL xs x)::L):=by
 subst hn;obtain⟨f,a,m⟩:=x;have hx2:=hx;unfold LotOk at hx2;dsimp only at hx2
 have hlen:∀i,i≤xs.length→(subL (xs.take i) (f,a,m)).length≤2*i:=by
  intro i;induction i with
  | zero=>intro _;exact aB _
  | succ i ih =>
   intro hi
   have e:subL (xs.take (i+1)) (f,a,m)=subL (xs.take i) (f,a,m)++subS (f,a,m) xs[i]!:=by
    unfold subL;rw[aC ac,cM,getElem!_of ac];simp
   have:=vn (f,a,m) xs[i]!
   have:=ih ac
   rw[e,az];omega
 refine Tri.body (args:=[.slice ad xs.length c,.agg (an (f,a,m)).toArray]) 102 HC Tryz.func270 rfl rfl rfl (by simp) ?_;simp only[an];repeat first|refine aa ?_|intro _|refine cZ ?_
 rename_i b3
 refine G.loop (α:=Nat×OA×Nat) (fun g=>g.1≤xs.length) (fun g=>[(0,.slice ad xs.length c),(3,au b3),(5,.slice g.2.1 (subL (xs.take g.1) (f,a,m)).length g.2.2),(6,ab (g.1:Int))])
  (fun g=>osl an 3 tLot g.2.1 g.2.2 (subL (xs.take g.1) (f,a,m))::obj b3 tLot [ab f,ab a,ab m]::L) (fun g=>xs.length - g.1) (0,none,0) (ao _) aj ((Ent.d8 an 3 tLot).trans ag) ?_
 rintro⟨i,ad1,c1⟩ hi;dsimp only at hi ⊢;have hli:=hlen i hi;by_cases hlt:i<xs.length
 case neg =>
  obtain rfl:i=xs.length:=ac;rw[bG];repeat first|refine aa ?_|intro _|refine cZ ?_
  exact KX.d7 ai ag ⟨ad1,c1,rfl,rfl⟩
 have hlt' : (i:Int).toNat<xs.length:=ac;have hii:(i:Int).toNat=i:=ac
 have e:subL (xs.take (i+1)) (f,a,m)=subL (xs.take i) (f,a,m)++subS (f,a,m) xs[(i:Int).toNat]!:=by
  unfold subL;rw[hii,aC ac,cM,getElem!_of ac];simp
 have hy:=hxs _ (aI hlt');generalize subL (xs.take i) (f,a,m)=z at *;obtain⟨y,hye⟩:∃y,xs[(i:Int).toNat]! = y:=⟨_,rfl⟩;unfold LotOk at hy;unfold subS at e;have back:∀(zs:LL) (ad3:OA) (cap3:Nat),subL (xs.take (i+1)) (f,a,m)=zs→True:=fun _ _ _ _=>trivial;by_cases h1:xs[(i:Int).toNat]!.1=f
 case neg =>
  rw[if_pos (.inl h1)] at e;repeat first|refine aa ?_|intro _|refine cZ ?_
  refine GO.ef (Ef.d8 (enc:=an) xs[(i:Int).toNat]! rfl rfl rfl rfl rfl (by rfl) (cx _) ac ac) ae ?_;rintro _ _⟨ad3,cap3,rfl,rfl⟩;repeat first|refine aa ?_|intro _|refine cZ ?_
  refine⟨(i+1,ad3,cap3),by dsimp only;omega,by dsimp only;omega,?_,?_⟩
  ·dsimp only;rw[e,aP i];exact aj
  ·dsimp only;rw[e];exact ag
 by_cases h2:a+m≤xs[(i:Int).toNat]!.2.1
 case pos =>
  rw[if_pos (.inr (.inl h2))] at e;repeat first|refine aa ?_|intro _|refine cZ ?_
  refine GO.ef (Ef.d8 (enc:=an) xs[(i:Int).toNat]! rfl rfl rfl rfl rfl (by rfl) (cx _) ac ac) ae ?_;rintro _ _⟨ad3,cap3,rfl,rfl⟩;repeat first|refine aa ?_|intro _|refine cZ ?_
  refine⟨(i+1,ad3,cap3),by dsimp only;omega,by dsimp only;omega,?_,?_⟩
  ·dsimp only;rw[e,aP i];exact aj
  ·dsimp only;rw[e];exact ag
 by_cases h3:xs[(i:Int).toNat]!.2.1+xs[(i:Int).toNat]!.2.2≤a
 case pos =>
  rw[if_pos (.inr (.inr h3))] at e;repeat first|refine aa ?_|intro _|refine cZ ?_
  refine GO.ef (Ef.d8 (enc:=an) xs[(i:Int).toNat]! rfl rfl rfl rfl rfl (by rfl) (cx _) ac ac) ae ?_;rintro _ _⟨ad3,cap3,rfl,rfl⟩;repeat first|refine aa ?_|intro _|refine cZ ?_
  refine⟨(i+1,ad3,cap3),by dsimp only;omega,by dsimp only;omega,?_,?_⟩
  ·dsimp only;rw[e,aP i];exact aj
  ·dsimp only;rw[e];exact ag
 rw[if_neg (fun q=>q.elim (fun q=>q h1) (fun q=>q.elim h2 h3))] at e;dsimp only at e;by_cases h4:xs[(i:Int).toNat]!.2.1<a
 ·rw[if_pos h4] at e;by_cases h5:a+m<xs[(i:Int).toNat]!.2.1+xs[(i:Int).toNat]!.2.2
  ·rw[if_pos h5] at e;repeat first|refine aa ?_|intro _|refine cZ ?_
   refine GO.ef (Ef.d8 (enc:=an) (f,xs[(i:Int).toNat]!.2.1,a - xs[(i:Int).toNat]!.2.1) rfl rfl rfl rfl rfl (by rfl) (cx _) ac ac) ae ?_;rintro _ _⟨ad3,cap3,rfl,rfl⟩;repeat first|refine aa ?_|intro _|refine cZ ?_
   refine GO.ef (Ef.d8 (enc:=an) (f,a+m,xs[(i:Int).toNat]!.2.1+xs[(i:Int).toNat]!.2.2 - a - m) rfl rfl rfl (by simp) rfl (by rfl) (cx _) (by simp;omega) (by simp;omega)) ae ?_;rintro _ _⟨ad4,cap4,rfl,rfl⟩;repeat first|refine aa ?_|intro _|refine cZ ?_
   refine⟨(i+1,ad4,cap4),by dsimp only;omega,by dsimp only;omega,?_,?_⟩
   ·dsimp only;rw[e,←aH,aP i];exact aj
   ·dsimp only;rw[e,←aH];exact ag
  ·rw[if_neg h5,ba] at e;repeat first|refine aa ?_|intro _|refine cZ ?_
   refine GO.ef (Ef.d8 (enc:=an) (f,xs[(i:Int).toNat]!.2.1,a - xs[(i:Int).toNat]!.2.1) rfl rfl rfl rfl rfl (by rfl) (cx _) ac ac) ae ?_;rintro _ _⟨ad3,cap3,rfl,rfl⟩;repeat first|refine aa ?_|intro _|refine cZ ?_
   refine⟨(i+1,ad3,cap3),by dsimp only;omega,by dsimp only;omega,?_,?_⟩
   ·dsimp only;rw[e,aP i];exact aj
   ·dsimp only;rw[e];exact ag
 ·rw[if_neg h4,aq] at e;by_cases h5:a+m<xs[(i:Int).toNat]!.2.1+xs[(i:Int).toNat]!.2.2
  ·rw[if_pos h5] at e;repeat first|refine aa ?_|intro _|refine cZ ?_
   refine GO.ef (Ef.d8 (enc:=an) (f,a+m,xs[(i:Int).toNat]!.2.1+xs[(i:Int).toNat]!.2.2 - a - m) rfl rfl rfl rfl rfl (by rfl) (cx _) ac ac) ae ?_;rintro _ _⟨ad3,cap3,rfl,rfl⟩;repeat first|refine aa ?_|intro _|refine cZ ?_
   refine⟨(i+1,ad3,cap3),by dsimp only;omega,by dsimp only;omega,?_,?_⟩
   ·dsimp only;rw[e,aP i];exact aj
   ·dsimp only;rw[e];exact ag
  ·rw[if_neg h5,ba] at e;repeat first|refine aa ?_|intro _|refine cZ ?_
   refine⟨(i+1,ad1,c1),by dsimp only;omega,by dsimp only;omega,?_,?_⟩
   ·dsimp only;rw[e,aP i];exact aj
   ·dsimp only;rw[e];exact ag
theorem om{L:LH}(ad1:OA)(n1 c1:Nat)(xs:LL)[Rds L ad1 Lot an 3 xs](ad2:OA)(n2 c2:Nat)(ys:LL)[Rds L ad2 Lot an 3 ys](hn1:n1=xs.length)(hn2:n2=ys.length)(hx:eZ xs)(hy:eZ ys) :
  Tri ah 225 #[.slice ad1 n1 c1,.slice ad2 n2 c2] L (fun v L'=>∃ad' cap',v=.slice ad' (eh xs ys).length cap'∧L' = osl an 3 tLot ad' cap' (eh xs ys)::L):=by
 subst hn1 hn2;obtain⟨hx1,hx2⟩:=hx;obtain⟨hy1,hy2⟩:=hy;have hwt:=nu hx1 hy1;refine Tri.body (args:=[.slice ad1 xs.length c1,.slice ad2 ys.length c2]) 58 Il Tryz.func225 rfl rfl rfl (by simp) ?_;repeat first|refine aa ?_|intro
 refine GO.ef (Ef.d7 (ip ad1 xs.length c1 xs rfl ac) rfl) ae ?_;rintro _ L ⟨rfl,rfl⟩;rw[aU (show eZ xs from⟨hx1,hx2⟩)];repeat first|refine aa ?_|intro
 refine GO.ef (Ef.d7 (ip ad2 ys.length c2 ys rfl ac) rfl) ae ?_;rintro _ L ⟨rfl,rfl⟩;rw[aU (show eZ ys from⟨hy1,hy2⟩)];repeat first|refine aa ?_|intro
 refine G.loop (α:=Nat×OA×Nat) (fun g=>g.1≤xs.length) (fun g=>[(0,.slice ad1 xs.length c1),(1,.slice ad2 ys.length c2),(7,.slice g.2.1 (eh (xs.take g.1) ys).length g.2.2),(8,ab (g.1:Int))]) (fun g=>osl an 3 tLot g.2.1 g.2.2 (eh (xs.take g.1) ys)::L) (fun g=>xs.length - g.1) (0,none,0) (ao _) aj (Ent.d8 an 3 tLot) ?_;rintro⟨i,ad3,c3⟩ hi;dsimp only at hi ⊢;obtain⟨w1,w2⟩:=hwt i hi;have hmul:i*(ys.length+1)≤4096*4097:=Nat.mul_le_mul ac ac;by_cases hlt:i<xs.length
 case neg =>
  obtain rfl:i=xs.length:=ac;rw[bG];repeat first|refine aa ?_|intro
  exact KX.d7 ai (Ent.refl _) ⟨ad3,c3,rfl,rfl⟩
 have hii:(i:Int).toNat=i:=ac;have hlt' : (i:Int).toNat<xs.length:=ac;have hyi:=hx1 _ (aI hlt);have e:eh (xs.take (i+1)) ys=(fx ys xs[i]!).foldl be (eh (xs.take i) ys):=ig (fun out y=>(fx ys y).foldl be out) [] hlt;have hrt:=nI hy1 hyi;have hro:=vF hy1 hyi;repeat first|refine aa ?_|intro
 rw[hii];rename_i b9;generalize eh (xs.take i) ys=out at *;generalize xs[i]! = y at *;refine G.ent (L':=osl an 3 tLot (some ⟨b9,0,none⟩) 1 [y]::osl an 3 tLot ad3 c3 out::L) ?_ ?_
 ·refine Ent.trans (B:=obj b9 tLot (an y)::osl an 3 tLot ad3 c3 out::L) ag ?_;exact Ent.e8 (enc:=an) (sz:=3) (xs:=[y]) (by simp) rfl (by intro z hz;rw[List.mem_singleton.1 hz];rfl) (by simp)
 repeat first|refine aa ?_|intro
 refine G.loop (α:=Nat×OA×Nat) (fun g=>g.1≤ys.length) (fun g=>[(0,.slice ad1 xs.length c1),(1,.slice ad2 ys.length c2),(7,.slice ad3 out.length c3),(8,ab (i:Int)),(9,.slice g.2.1 (fx (ys.take g.1) y).length g.2.2),(10,ab (g.1:Int))]) (fun g=>osl an 3 tLot g.2.1 g.2.2 (fx (ys.take g.1) y)::osl an 3 tLot ad3 c3 out::L) (fun g=>ys.length - g.1) (0,some ⟨b9,0,none⟩,1) (ao _) aj (Ent.refl _) ?_;rintro⟨k,ad4,c4⟩ hk;dsimp only at hk ⊢;obtain⟨r1,_,r3⟩:=hrt k hk;by_cases hlk:k<ys.length
 case pos =>
  have hkk:(k:Int).toNat=k:=ac;have e2:fx (ys.take (k+1)) y=subL (fx (ys.take k) y) ys[k]!:=ig subL [y] hlk;repeat first|refine aa ?_|intro
  rw[hkk];refine GO.ef (Ef.d7 (Ct ad4 (fx (ys.take k) y).length c4 (fx (ys.take k) y) ys[k]! rfl ac r1 (hy1 _ (aI hlk))) rfl) ae ?_;rintro _ _⟨ad5,c5,rfl,rfl⟩;repeat first|refine aa ?_|intro
  refine⟨(k+1,ad5,c5),by dsimp only;omega,by dsimp only;omega,?_,?_⟩
  ·dsimp only;rw[e2,aP k];exact aj
  ·dsimp only;rw[e2];exact ag
 obtain rfl:k=ys.length:=ac;rw[bG] at *;clear hrt;obtain⟨_,_,r5⟩:=hro;generalize fx ys y=r at *;have hpt:=qK r1 w1;repeat first|refine aa ?_|intro
 refine G.loop (α:=Nat×OA×Nat) (fun g=>g.1≤r.length) (fun g=>[(0,.slice ad1 xs.length c1),(1,.slice ad2 ys.length c2),(7,.slice g.2.1 ((r.take g.1).foldl be out).length g.2.2),(8,ab (i:Int)),(9,.slice ad4 r.length c4),(11,ab (g.1:Int))]) (fun g=>osl an 3 tLot g.2.1 g.2.2 ((r.take g.1).foldl be out)::osl an 3 tLot ad4 c4 r::L) (fun g=>r.length - g.1) (0,ad3,c3) (ao _) aj (by show Ent _ (osl an 3 tLot ad3 c3 out::osl an 3 tLot ad4 c4 r::L);exact ag) ?_;rintro⟨k,ad5,c5⟩ hk;dsimp only at hk ⊢;obtain⟨p1,p2⟩:=hpt k hk;by_cases hlk:k<r.length
 case pos =>
  have hkk:(k:Int).toNat=k:=ac;have e2:(r.take (k+1)).foldl be out=be ((r.take k).foldl be out) r[k]!:=ig be out hlk;have hrk:=r1 _ (aI hlk);unfold LotOk at hrk;repeat first|refine aa ?_|intro
  rw[hkk];refine GO.ef (Ef.d7 (kU ad5 ((r.take k).foldl be out).length c5 ((r.take k).foldl be out) r[k]! rfl ac (fun z hz=>by have:=p1 z hz;unfold LotOk at this;unfold LotW;omega) (by unfold LotW;omega)) rfl) ae ?_;rintro _ _⟨ad6,c6,rfl,rfl⟩;repeat first|refine aa ?_|intro
  refine⟨(k+1,ad6,c6),by dsimp only;omega,by dsimp only;omega,?_,?_⟩
  ·dsimp only;rw[e2,aP k];exact aj
  ·dsimp only;rw[e2];exact ag
 obtain rfl:k=r.length:=ac;rw[bG];repeat first|refine aa ?_|intro
 refine⟨(i+1,ad5,c5),by dsimp only;omega,by dsimp only;omega,?_,?_⟩
 ·dsimp only;rw[e,aP i];exact aj
 ·dsimp only;rw[e];exact ag
theorem mO{L:LH}(ad1:OA)(n1 c1:Nat)(xs:LL)[Rds L ad1 Lot an 3 xs](ad2:OA)(n2 c2:Nat)(ys:LL)[Rds L ad2 Lot an 3 ys](hn1:n1=xs.length)(hn2:n2=ys.length)(hx:eZ xs)(hy:eZ ys) :
  Tri ah 145 #[.slice ad1 n1 c1,.slice ad2 n2 c2] L (fun v L'=>∃ad' cap',v=.slice ad' (fF xs ys).length cap'∧L' = osl an 3 tLot ad' cap' (fF xs ys)::L):=by
 refine Tri.body (args:=[.slice ad1 n1 c1,.slice ad2 n2 c2]) 9 JD Tryz.func145 rfl rfl rfl (by simp) ?_;have hs:=kL hx.1;have hx2:=hx.2;repeat first|refine aa ?_|intro
 refine GO.ef (Ef.d7 (qe ad1 n1 c1 xs hn1 hx) rfl) ae ?_;rintro _ _⟨ad3,c3,rfl,rfl⟩;repeat first|refine aa ?_|intro
 refine GO.ef (Ef.d7 (om ad3 (setL xs).length c3 (setL xs) ad2 n2 c2 ys rfl hn2 ⟨hs.2,ac⟩ hy) rfl) ae ?_;rintro _ _⟨ad4,c4,rfl,rfl⟩;repeat first|refine aa ?_|intro
 have e:fF xs ys=eh (setL xs) ys:=rfl;rw[e];refine KX.d7 ai ?_ ⟨ad4,c4,rfl,rfl⟩;exact ag
theorem rT{L:LH}(ad1:OA)(n1 c1:Nat)(xs:LL)[Rds L ad1 Lot an 3 xs](ad2:OA)(n2 c2:Nat)(ys:LL)[Rds L ad2 Lot an 3 ys](hn1:n1=xs.length)(hn2:n2=ys.length)(hx:eZ xs)(hy:eZ ys)(hm:(fF xs ys).length≤4096) :
  Tri ah 98 #[.slice ad1 n1 c1,.slice ad2 n2 c2] L (fun v L'=>∃ad' cap',v=.slice ad' (ge xs ys).length cap'∧L' = osl an 3 tLot ad' cap' (ge xs ys)::L):=by
 have hy2:=hy.2;refine Tri.body (args:=[.slice ad1 n1 c1,.slice ad2 n2 c2]) 15 en98 Tryz.func98 rfl rfl rfl (by simp) ?_;repeat first|refine aa ?_|intro
 refine GO.ef (Ef.d7 (ip ad2 n2 c2 ys hn2 ac) rfl) ae ?_;rintro _ L ⟨rfl,rfl⟩;rw[aU hy];repeat first|refine aa ?_|intro
 refine GO.ef (Ef.d7 (mO ad1 n1 c1 xs ad2 n2 c2 ys hn1 hn2 hx hy) rfl) ae ?_;rintro _ _⟨ad3,c3,rfl,rfl⟩;repeat first|refine aa ?_|intro
 refine GO.ef (Ef.d7 (mO ad1 n1 c1 xs ad3 (fF xs ys).length c3 (fF xs ys) hn1 rfl hx ⟨(ki hx.1 hy.1).1,hm⟩) rfl) ae ?_;rintro _ _⟨ad4,c4,rfl,rfl⟩;repeat first|refine aa ?_|intro
 have e:ge xs ys=fF xs (fF xs ys):=rfl;rw[e];refine KX.d7 ai ?_ ⟨ad4,c4,rfl,rfl⟩;exact ag
theorem oG{L:LH}(ad1:OA)(n1 c1:Nat)(xs:LL)[Rds L ad1 Lot an 3 xs](ad2:OA)(n2 c2:Nat)(ys:LL)[Rds L ad2 Lot an 3 ys](hn1:n1=xs.length)(hn2:n2=ys.length)(hm1:n1≤9223372036854775807)(hm2:n2≤9223372036854775807) :
  Tri ah 224 #[.slice ad1 n1 c1,.slice ad2 n2 c2] L (fun v L'=>v=.bool (dB (fT xs ys))∧L' = L):=by
 refine Tri.body (args:=[.slice ad1 n1 c1,.slice ad2 n2 c2]) 22 Im Tryz.func224 rfl rfl rfl (by simp) ?_;repeat first|refine aa ?_|intro
 refine GO.ef (Ef.d7 (ip ad1 n1 c1 xs hn1 hm1) rfl) ae ?_;rintro _ L ⟨rfl,rfl⟩;repeat first|refine aa ?_|intro
 refine GO.ef (Ef.d7 (ip ad2 n2 c2 ys hn2 hm2) rfl) ae ?_;rintro _ L ⟨rfl,rfl⟩;by_cases hx:eZ xs
 case neg =>
  rw[aF hx];repeat first|refine aa ?_|intro
  exact KX.d7 ai ag ⟨by rw[aF (show ¬fT xs ys from fun q=>hx q.1)];rfl,rfl⟩
 rw[aU hx];by_cases hy:eZ ys
 case neg =>
  rw[aF hy];repeat first|refine aa ?_|intro
  exact KX.d7 ai ag ⟨by rw[aF (show ¬fT xs ys from fun q=>hy q.2.1)];rfl,rfl⟩
 rw[aU hy];have hmo:=(ki hx.1 hy.1).2;have hmul:xs.length*(ys.length+1)≤4096*4097:=Nat.mul_le_mul hx.2 (by have:=hy.2;omega);repeat first|refine aa ?_|intro
 refine GO.ef (Ef.d7 (mO ad1 n1 c1 xs ad2 n2 c2 ys hn1 hn2 hx hy) rfl) ae ?_;rintro _ _⟨ad3,c3,rfl,rfl⟩;repeat first|refine aa ?_|intro
 refine KX.d7 ai ag ⟨?_,rfl⟩;by_cases h0:fF xs ys=[]
 ·rw[aU (show((fF xs ys).length:Int)=0 by rw[h0];rfl),aU (show fT xs ys from⟨hx,hy,h0⟩)];rfl
 ·rw[aF (show ¬((fF xs ys).length:Int)=0 from fun q=>h0 (aW ac)),aF (show ¬fT xs ys from fun q=>h0 q.2.2)];rfl
