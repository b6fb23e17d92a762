/- Lemmas and contracts of functions. -/
import Derived.Test.YtommnllbflbdmaaGreatDoorGAuditTotalsau
set_option linter.all false
set_option maxHeartbeats 2000000
namespace Go.Proofs.YtommnllbflbdmaaGreatDoor
section
open Go.V
attribute [local irreducible] G GO GP GPW GPK Ev Ef EfR Ent CB GB V.Enters
def setL (l:List Lot):List Lot:=l.foldl insL []
theorem gB {α β:Type} (f:β→α→β) (b:β) [Inhabited α] {l:List α} {i:Nat} (h:i<l.length):(l.take (i+1)).foldl f b=f ((l.take i).foldl f b) l[i]!:=by
 rw [ay h,cg,getElem!_of h]
 rfl
theorem lP {l:List Lot} (h:∀ x∈l,LotOk x):∀ i,i≤l.length→(setL (l.take i)).length≤i∧∀ x∈setL (l.take i),LotOk x
 | 0,_=>⟨aw _,(fun _ q=>by cases q)⟩
 | i+1,hi=>by
  obtain ⟨h1,h2⟩:=lP h i ab
  have e:setL (l.take (i+1))=insL (setL (l.take i)) l[i]!:=gB insL [] ab
  rw [e]
  obtain ⟨h3,h4⟩:=ED (h _ (aG (show i<l.length by omega))) h2
  exact ⟨ab,h4⟩
theorem kj {l:List Lot} (h:∀ x∈l,LotOk x):(setL l).length≤l.length∧∀ x∈setL l,LotOk x:=by
 have:=lP h l.length (aw _)
 rwa [aZ] at this
def apart (y z:Lot):Prop:=y.1≠z.1∨y.2.1+y.2.2≤z.2.1∨z.2.1+z.2.2≤y.2.1
def Apart (l:List Lot):Prop:=l.Pairwise apart
def subS (x y:Lot):List Lot :=
 if y.1≠x.1∨x.2.1+x.2.2≤y.2.1∨y.2.1+y.2.2≤x.2.1 then [y]
 else (if y.2.1<x.2.1 then [(x.1,y.2.1,x.2.1 - y.2.1)] else [])++(if x.2.1+x.2.2<y.2.1+y.2.2 then [(x.1,x.2.1+x.2.2,y.2.1+y.2.2 - x.2.1 - x.2.2)] else [])
def subL (l:List Lot) (x:Lot):List Lot:=l.flatMap (subS x)
theorem ll {x y p:Lot} (hx:LotOk x) (hy:LotOk y) (hp:p∈subS x y):LotOk p∧p.1=y.1∧y.2.1≤p.2.1∧p.2.1+p.2.2≤y.2.1+y.2.2:=by
 unfold LotOk at hx hy
 unfold subS at hp
 split at hp
 ·rw [List.mem_singleton.1 hp]
  exact ⟨hy,rfl,aW _,aW _⟩
 ·rename_i hn
  rcases List.mem_append.1 hp with hp|hp
  ·split at hp
   ·rw [List.mem_singleton.1 hp]
    unfold LotOk
    dsimp only
    omega
   ·cases hp
  ·split at hp
   ·rw [List.mem_singleton.1 hp]
    unfold LotOk
    dsimp only
    omega
   ·cases hp
theorem zm {x:Lot} (y:Lot) (hx:0≤x.2.2):Apart (subS x y):=by
 unfold Apart subS
 split
 ·exact cB _ _
 ·rename_i hn
  split
  ·split
   ·refine List.pairwise_cons.2 ⟨fun z hz=>?_,cB _ _⟩
    rw [List.mem_singleton.1 hz]
    unfold apart
    dsimp only
    omega
   ·exact cB _ _
  ·split
   ·exact cB _ _
   ·exact List.Pairwise.nil
theorem uw (x y:Lot):(subS x y).length≤2:=by
 unfold subS
 split
 ·exact Nat.le_succ 1
 ·rw [ax]
  split<;>split<;>simp
theorem jJ {x:Lot}:∀ {l:List Lot},(∀ z∈l,apart z x)→subL l x=l
 | [],_=>rfl
 | z::l,h=>by
  have e:subL (z::l) x=subS x z++subL l x:=bR
  have e1:subS x z=[z]:=by
   unfold subS
   have:=h z ap
   unfold apart at this
   rw [if_pos]
   omega
  rw [e,e1,jJ (fun y hy=>h y (ao _ hy))]
  rfl
theorem mD {x:Lot} {l:List Lot} (hx:LotOk x) (hl:∀ y∈l,LotOk y) {p:Lot} (hp:p∈subL l x):∃ y∈l,LotOk p∧p.1=y.1∧y.2.1≤p.2.1∧p.2.1+p.2.2≤y.2.1+y.2.2:=by
 obtain ⟨y,hy,hp⟩:=List.mem_flatMap.1 hp
 exact ⟨y,hy,ll hx (hl y hy) hp⟩
theorem oU {x:Lot} {l:List Lot} (hx:LotOk x) (hl:∀ y∈l,LotOk y):∀ p∈subL l x,LotOk p:=fun p hp=>by
 obtain ⟨_,_,h,_⟩:=mD hx hl hp
 exact h
theorem kX {x:Lot} (hx:LotOk x):∀ {l:List Lot},(∀ y∈l,LotOk y)→Apart l→Apart (subL l x)∧(subL l x).length≤l.length+1
 | [],_,_=>⟨List.Pairwise.nil,al _⟩
 | y::l,hl,ha=>by
  obtain ⟨a1,a2⟩:=List.pairwise_cons.1 ha
  have hl2:∀ z∈l,LotOk z:=fun z hz=>hl z (ao _ hz)
  obtain ⟨i1,i2⟩:=kX hx hl2 a2
  have e:subL (y::l) x=subS x y++subL l x:=bR
  have hy:=hl y ap
  rw [e]
  refine ⟨List.pairwise_append.2 ⟨zm y (by unfold LotOk at hx;omega),i1,fun p hp q hq=>?_⟩,?_⟩
  ·obtain ⟨_,p1,p2,p3⟩:=ll hx hy hp
   obtain ⟨z,hz,_,q1,q2,q3⟩:=mD hx hl2 hq
   have:=a1 z hz
   unfold apart at this ⊢
   omega
  ·rw [ax,bj]
   by_cases h2:(subS x y).length≤1
   ·omega
   ·have hin:y.1=x.1∧y.2.1<x.2.1∧x.2.1+x.2.2<y.2.1+y.2.2:=by
     unfold subS at h2
     split at h2
     ·exact absurd (aw 1) h2
     ·rename_i hn
      split at h2
      ·split at h2
       ·omega
       ·exact absurd (aw 1) h2
      ·split at h2
       ·exact absurd (aw 1) h2
       ·exact absurd (al 1) h2
    rw [jJ (l:=l) (fun z hz=>by
     have h3:=a1 z hz
     have h4:=hl2 z hz
     unfold LotOk at hx h4
     unfold apart at h3 ⊢
     omega)]
    have:=uw x y
    omega
def eX (set:List Lot) (y:Lot):List Lot:=set.foldl subL [y]
theorem nh {set:List Lot} {y:Lot} (hs:∀ x∈set,LotOk x) (hy:LotOk y):∀ i,i≤set.length→(∀ p∈eX (set.take i) y,LotOk p)∧Apart (eX (set.take i) y)∧(eX (set.take i) y).length≤i+1
 | 0,_=>⟨fun p hp=>by rw [List.mem_singleton.1 hp];exact hy,cB _ _,aw _⟩
 | i+1,hi=>by
  obtain ⟨h1,h2,h3⟩:=nh hs hy i ab
  have e:eX (set.take (i+1)) y=subL (eX (set.take i) y) set[i]!:=gB subL [y] ab
  rw [e]
  have hx:=hs _ (aG (show i<set.length by omega))
  obtain ⟨h4,h5⟩:=kX hx h1 h2
  exact ⟨oU hx h1,h4,ab⟩
theorem uO {set:List Lot} {y:Lot} (hs:∀ x∈set,LotOk x) (hy:LotOk y):(∀ p∈eX set y,LotOk p)∧Apart (eX set y)∧(eX set y).length≤set.length+1:=by
 have:=nh hs hy set.length (aw _)
 rwa [aZ] at this
def dN (s set:List Lot):List Lot:=s.foldl (fun out y=>(eX set y).foldl aR out) []
theorem qg {r out:List Lot} (hr:∀ p∈r,LotOk p) (ho:∀ p∈out,LotOk p):∀ i,i≤r.length→(∀ p∈(r.take i).foldl aR out,LotOk p)∧((r.take i).foldl aR out).length≤out.length+i
 | 0,_=>⟨ho,aw _⟩
 | i+1,hi=>by
  obtain ⟨h1,h2⟩:=qg hr ho i ab
  rw [gB aR out ab]
  have hx:=hr _ (aG (show i<r.length by omega))
  have:=jO ((r.take i).foldl aR out) r[i]!
  refine ⟨nr h1 ?_,ab⟩
  unfold LotOk at hx
  unfold LotW
  omega
theorem mR {s set:List Lot} (h:∀ x∈s,LotOk x) (hs:∀ x∈set,LotOk x):∀ i,i≤s.length→(∀ p∈dN (s.take i) set,LotOk p)∧(dN (s.take i) set).length≤i*(set.length+1)
 | 0,_=>⟨(fun _ q=>by cases q),al _⟩
 | i+1,hi=>by
  obtain ⟨h1,h2⟩:=mR h hs i ab
  have e:dN (s.take (i+1)) set=(eX set s[i]!).foldl aR (dN (s.take i) set):=gB (fun out y=>(eX set y).foldl aR out) [] ab
  obtain ⟨r1,_,r3⟩:=uO hs (h _ (aG (show i<s.length by omega)))
  have h3:=qg r1 h1 (eX set s[i]!).length (aw _)
  rw [aZ] at h3
  rw [e]
  refine ⟨h3.1,?_⟩
  have h4:=h3.2
  have e2:(i+1)*(set.length+1)=i*(set.length+1)+(set.length+1):=Nat.succ_mul _ _
  omega
theorem uo {s set:List Lot} (h:∀ x∈s,LotOk x) (hs:∀ x∈set,LotOk x):(∀ p∈dN s set,LotOk p)∧(dN s set).length≤s.length*(set.length+1):=by
 have:=mR h hs s.length (aw _)
 rwa [aZ] at this
def fh (a b:List Lot):List Lot:=dN (setL a) b
def fK (a b:List Lot):List Lot:=fh a (fh a b)
def fA (a b:List Lot):Prop:=ey a∧ey b∧fh a b=[]
instance (a b:List Lot):Decidable (fA a b):=by unfold fA;infer_instance
theorem jN {a b:List Lot} (ha:∀ x∈a,LotOk x) (hb:∀ x∈b,LotOk x):(∀ p∈fh a b,LotOk p)∧(fh a b).length≤a.length*(b.length+1):=by
 obtain ⟨h1,h2⟩:=kj ha
 obtain ⟨h3,h4⟩:=uo h2 hb
 exact ⟨h3,cx h4 (cZ _ h1)⟩
theorem pB {L:List HP} (ad:Option Addr) (n c:Nat) (xs:List Lot) [Rds L ad Lot ah 3 xs] (hn:n=xs.length) (hv:ey xs) :
  Tri Tryz.prog 223 #[.slice ad n c] L (fun v L'=>∃ ad' cap',v=.slice ad' (setL xs).length cap'∧L' = osl ah 3 tLot ad' cap' (setL xs)::L):=by
 subst hn
 obtain ⟨hx,hl⟩:=hv
 have hst:=lP hx
 refine Tri.body (args:=[.slice ad xs.length c]) 24 GS Tryz.func223 rfl rfl rfl (by simp) ?_
 repeat first|refine aa ?_|intro
 refine GO.ef (Ef.d7 (gI ad xs.length c xs rfl ab) rfl) ac ?_
 rintro _ L ⟨rfl,rfl⟩
 rw [aL (show ey xs from ⟨hx,hl⟩)]
 repeat first|refine aa ?_|intro
 refine G.loop (α:=Nat×Option Addr×Nat) (fun g=>g.1≤xs.length) (fun g=>[(0,.slice ad xs.length c),(3,.slice g.2.1 (setL (xs.take g.1)).length g.2.2),(4,.bool true),(5,.int .i64 (g.1:Int))]) (fun g=>osl ah 3 tLot g.2.1 g.2.2 (setL (xs.take g.1))::L) (fun g=>xs.length - g.1) (0,none,0) (al _) ai (Ent.d8 ah 3 tLot) ?_
 rintro ⟨i,ad1,c1⟩ hi
 dsimp only at hi ⊢
 obtain ⟨h1,h2⟩:=hst i hi
 by_cases hlt:i<xs.length
 case neg =>
  obtain rfl:i=xs.length:=ab
  rw [aZ]
  repeat first|refine aa ?_|intro
  exact KX.d7 ag (Ent.refl _) ⟨ad1,c1,rfl,rfl⟩
 have hii:(i:Int).toNat=i:=ab
 have e:setL (xs.take (i+1))=insL (setL (xs.take i)) xs[i]!:=gB insL [] hlt
 have hxi:=hx _ (aG hlt)
 repeat first|refine aa ?_|intro
 rw [hii]
 refine GO.ef (Ef.d7 (uM ad1 (setL (xs.take i)).length c1 (setL (xs.take i)) xs[i]! rfl ab h2 hxi) rfl) ac ?_
 rintro _ _ ⟨ad2,c2,rfl,rfl⟩
 repeat first|refine aa ?_|intro
 refine ⟨(i+1,ad2,c2),by dsimp only;omega,by dsimp only;omega,?_,?_⟩
 ·dsimp only
  rw [e,aM i]
  exact ai
 ·dsimp only
  rw [e]
  exact ae
abbrev Ae:List Stp:=[.ev 0,.ev 1,.ev 2,.ev 3,.ev 4,.ev 5,.ev 6,.ev 7,.ev 8,.ev 9,.ev 10,.ev 11]
abbrev Ad:List Stp:=[.ev 0,.ev 1,.ev 2,.ev 3,.ev 4,.ev 5,.ev 6,.ev 7,.ev 8,.ev 9,.ev 10,.ev 11,.ev 12,.ev 13,.ev 14,.ev 15,.ev 16,.ev 17,.ev 18,.ev 19,.ev 20,.ev 21,.ev 22]
theorem cP {φ ψ:Prop} (k:ψ) (h:Hid ψ→φ:=by intro k;(with_reducible apply G.d8);first|refine G.d7 (N:=102) (id:=6) Ae mixed an (Hid.out k)|refine G.d7 (N:=102) (id:=7) Ad mixed an (Hid.out k)):φ:=h ⟨k⟩
theorem Bq {L:List HP} (ad:Option Addr) (n c:Nat) (xs:List Lot) (x:Lot) [Rds L ad Lot ah 3 xs] (hn:n=xs.length) (hl:xs.length≤100000) (hxs:∀ y∈xs,LotOk y) (hx:LotOk x) :
  Tri Tryz.prog 270 #[.slice ad n c,.agg (ah x).toArray] L (fun v L'=>∃ ad' cap',v=.slice ad' (subL xs x).length cap'∧L' = osl ah 3 tLot ad' cap' (subL xs x)::L):=by
 subst hn
 obtain ⟨f,a,m⟩:=x
 have hx2:=hx
 unfold LotOk at hx2
 dsimp only at hx2
 have hlen:∀ i,i≤xs.length→(subL (xs.take i) (f,a,m)).length≤2*i:=by
  intro i
  induction i with
  | zero=>intro _;exact aw _
  | succ i ih =>
   intro hi
   have e:subL (xs.take (i+1)) (f,a,m)=subL (xs.take i) (f,a,m)++subS (f,a,m) xs[i]!:=by
    unfold subL
    rw [ay ab,cM,getElem!_of ab]
    simp
   have:=uw (f,a,m) xs[i]!
   have:=ih ab
   rw [e,ax]
   omega
 refine Tri.body (args:=[.slice ad xs.length c,.agg (ah (f,a,m)).toArray]) 102 Gc Tryz.func270 rfl rfl rfl (by simp) ?_
 simp only [ah]
 repeat first|refine aa ?_|intro _|refine cP ?_
 rename_i b3
 refine G.loop (α:=Nat×Option Addr×Nat) (fun g=>g.1≤xs.length) (fun g=>[(0,.slice ad xs.length c),(3,.pointer (some ⟨b3,0,none⟩)),(5,.slice g.2.1 (subL (xs.take g.1) (f,a,m)).length g.2.2),(6,.int .i64 (g.1:Int))])
  (fun g=>osl ah 3 tLot g.2.1 g.2.2 (subL (xs.take g.1) (f,a,m))::obj b3 tLot [.int .i64 f,.int .i64 a,.int .i64 m]::L) (fun g=>xs.length - g.1) (0,none,0) (al _) ai ((Ent.d8 ah 3 tLot).trans ae) ?_
 rintro ⟨i,ad1,c1⟩ hi
 dsimp only at hi ⊢
 have hli:=hlen i hi
 by_cases hlt:i<xs.length
 case neg =>
  obtain rfl:i=xs.length:=ab
  rw [aZ]
  repeat first|refine aa ?_|intro _|refine cP ?_
  exact KX.d7 ag ae ⟨ad1,c1,rfl,rfl⟩
 have hlt' : (i:Int).toNat<xs.length:=ab
 have hii:(i:Int).toNat=i:=ab
 have e:subL (xs.take (i+1)) (f,a,m)=subL (xs.take i) (f,a,m)++subS (f,a,m) xs[(i:Int).toNat]!:=by
  unfold subL
  rw [hii,ay ab,cM,getElem!_of ab]
  simp
 have hy:=hxs _ (aG hlt')
 generalize subL (xs.take i) (f,a,m)=z at *
 obtain ⟨y,hye⟩:∃ y,xs[(i:Int).toNat]! = y:=⟨_,rfl⟩
 unfold LotOk at hy
 unfold subS at e
 have back:∀ (zs:List Lot) (ad3:Option Addr) (cap3:Nat),subL (xs.take (i+1)) (f,a,m)=zs→True:=fun _ _ _ _=>trivial
 by_cases h1:xs[(i:Int).toNat]!.1=f
 case neg =>
  rw [if_pos (.inl h1)] at e
  repeat first|refine aa ?_|intro _|refine cP ?_
  refine GO.ef (Ef.d8 (enc:=ah) xs[(i:Int).toNat]! rfl rfl rfl rfl rfl (by rfl) (cz _) ab ab) ac ?_
  rintro _ _ ⟨ad3,cap3,rfl,rfl⟩
  repeat first|refine aa ?_|intro _|refine cP ?_
  refine ⟨(i+1,ad3,cap3),by dsimp only;omega,by dsimp only;omega,?_,?_⟩
  ·dsimp only
   rw [e,aM i]
   exact ai
  ·dsimp only
   rw [e]
   exact ae
 by_cases h2:a+m≤xs[(i:Int).toNat]!.2.1
 case pos =>
  rw [if_pos (.inr (.inl h2))] at e
  repeat first|refine aa ?_|intro _|refine cP ?_
  refine GO.ef (Ef.d8 (enc:=ah) xs[(i:Int).toNat]! rfl rfl rfl rfl rfl (by rfl) (cz _) ab ab) ac ?_
  rintro _ _ ⟨ad3,cap3,rfl,rfl⟩
  repeat first|refine aa ?_|intro _|refine cP ?_
  refine ⟨(i+1,ad3,cap3),by dsimp only;omega,by dsimp only;omega,?_,?_⟩
  ·dsimp only
   rw [e,aM i]
   exact ai
  ·dsimp only
   rw [e]
   exact ae
 by_cases h3:xs[(i:Int).toNat]!.2.1+xs[(i:Int).toNat]!.2.2≤a
 case pos =>
  rw [if_pos (.inr (.inr h3))] at e
  repeat first|refine aa ?_|intro _|refine cP ?_
  refine GO.ef (Ef.d8 (enc:=ah) xs[(i:Int).toNat]! rfl rfl rfl rfl rfl (by rfl) (cz _) ab ab) ac ?_
  rintro _ _ ⟨ad3,cap3,rfl,rfl⟩
  repeat first|refine aa ?_|intro _|refine cP ?_
  refine ⟨(i+1,ad3,cap3),by dsimp only;omega,by dsimp only;omega,?_,?_⟩
  ·dsimp only
   rw [e,aM i]
   exact ai
  ·dsimp only
   rw [e]
   exact ae
 rw [if_neg (fun q=>q.elim (fun q=>q h1) (fun q=>q.elim h2 h3))] at e
 dsimp only at e
 by_cases h4:xs[(i:Int).toNat]!.2.1<a
 ·rw [if_pos h4] at e
  by_cases h5:a+m<xs[(i:Int).toNat]!.2.1+xs[(i:Int).toNat]!.2.2
  ·rw [if_pos h5] at e
   repeat first|refine aa ?_|intro _|refine cP ?_
   refine GO.ef (Ef.d8 (enc:=ah) (f,xs[(i:Int).toNat]!.2.1,a - xs[(i:Int).toNat]!.2.1) rfl rfl rfl rfl rfl (by rfl) (cz _) ab ab) ac ?_
   rintro _ _ ⟨ad3,cap3,rfl,rfl⟩
   repeat first|refine aa ?_|intro _|refine cP ?_
   refine GO.ef (Ef.d8 (enc:=ah) (f,a+m,xs[(i:Int).toNat]!.2.1+xs[(i:Int).toNat]!.2.2 - a - m) rfl rfl rfl (by simp) rfl (by rfl) (cz _) (by simp;omega) (by simp;omega)) ac ?_
   rintro _ _ ⟨ad4,cap4,rfl,rfl⟩
   repeat first|refine aa ?_|intro _|refine cP ?_
   refine ⟨(i+1,ad4,cap4),by dsimp only;omega,by dsimp only;omega,?_,?_⟩
   ·dsimp only
    rw [e,← az,aM i]
    exact ai
   ·dsimp only
    rw [e,← az]
    exact ae
  ·rw [if_neg h5,aV] at e
   repeat first|refine aa ?_|intro _|refine cP ?_
   refine GO.ef (Ef.d8 (enc:=ah) (f,xs[(i:Int).toNat]!.2.1,a - xs[(i:Int).toNat]!.2.1) rfl rfl rfl rfl rfl (by rfl) (cz _) ab ab) ac ?_
   rintro _ _ ⟨ad3,cap3,rfl,rfl⟩
   repeat first|refine aa ?_|intro _|refine cP ?_
   refine ⟨(i+1,ad3,cap3),by dsimp only;omega,by dsimp only;omega,?_,?_⟩
   ·dsimp only
    rw [e,aM i]
    exact ai
   ·dsimp only
    rw [e]
    exact ae
 ·rw [if_neg h4,aj] at e
  by_cases h5:a+m<xs[(i:Int).toNat]!.2.1+xs[(i:Int).toNat]!.2.2
  ·rw [if_pos h5] at e
   repeat first|refine aa ?_|intro _|refine cP ?_
   refine GO.ef (Ef.d8 (enc:=ah) (f,a+m,xs[(i:Int).toNat]!.2.1+xs[(i:Int).toNat]!.2.2 - a - m) rfl rfl rfl rfl rfl (by rfl) (cz _) ab ab) ac ?_
   rintro _ _ ⟨ad3,cap3,rfl,rfl⟩
   repeat first|refine aa ?_|intro _|refine cP ?_
   refine ⟨(i+1,ad3,cap3),by dsimp only;omega,by dsimp only;omega,?_,?_⟩
   ·dsimp only
    rw [e,aM i]
    exact ai
   ·dsimp only
    rw [e]
    exact ae
  ·rw [if_neg h5,aV] at e
   repeat first|refine aa ?_|intro _|refine cP ?_
   refine ⟨(i+1,ad1,c1),by dsimp only;omega,by dsimp only;omega,?_,?_⟩
   ·dsimp only
    rw [e,aM i]
    exact ai
   ·dsimp only
    rw [e]
    exact ae
end
section
open Go.V
attribute [local irreducible] G GO GP GPW GPK Ev Ef EfR Ent CB GB V.Enters
theorem nL {L:List HP} (ad1:Option Addr) (n1 c1:Nat) (xs:List Lot) [Rds L ad1 Lot ah 3 xs] (ad2:Option Addr) (n2 c2:Nat) (ys:List Lot) [Rds L ad2 Lot ah 3 ys] (hn1:n1=xs.length) (hn2:n2=ys.length) (hx:ey xs) (hy:ey ys) :
  Tri Tryz.prog 225 #[.slice ad1 n1 c1,.slice ad2 n2 c2] L (fun v L'=>∃ ad' cap',v=.slice ad' (dN xs ys).length cap'∧L' = osl ah 3 tLot ad' cap' (dN xs ys)::L):=by
 subst hn1 hn2
 obtain ⟨hx1,hx2⟩:=hx
 obtain ⟨hy1,hy2⟩:=hy
 have hwt:=mR hx1 hy1
 refine Tri.body (args:=[.slice ad1 xs.length c1,.slice ad2 ys.length c2]) 58 GN Tryz.func225 rfl rfl rfl (by simp) ?_
 repeat first|refine aa ?_|intro
 refine GO.ef (Ef.d7 (gI ad1 xs.length c1 xs rfl ab) rfl) ac ?_
 rintro _ L ⟨rfl,rfl⟩
 rw [aL (show ey xs from ⟨hx1,hx2⟩)]
 repeat first|refine aa ?_|intro
 refine GO.ef (Ef.d7 (gI ad2 ys.length c2 ys rfl ab) rfl) ac ?_
 rintro _ L ⟨rfl,rfl⟩
 rw [aL (show ey ys from ⟨hy1,hy2⟩)]
 repeat first|refine aa ?_|intro
 refine G.loop (α:=Nat×Option Addr×Nat) (fun g=>g.1≤xs.length) (fun g=>[(0,.slice ad1 xs.length c1),(1,.slice ad2 ys.length c2),(7,.slice g.2.1 (dN (xs.take g.1) ys).length g.2.2),(8,.int .i64 (g.1:Int))]) (fun g=>osl ah 3 tLot g.2.1 g.2.2 (dN (xs.take g.1) ys)::L) (fun g=>xs.length - g.1) (0,none,0) (al _) ai (Ent.d8 ah 3 tLot) ?_
 rintro ⟨i,ad3,c3⟩ hi
 dsimp only at hi ⊢
 obtain ⟨w1,w2⟩:=hwt i hi
 have hmul:i*(ys.length+1)≤4096*4097:=Nat.mul_le_mul ab ab
 by_cases hlt:i<xs.length
 case neg =>
  obtain rfl:i=xs.length:=ab
  rw [aZ]
  repeat first|refine aa ?_|intro
  exact KX.d7 ag (Ent.refl _) ⟨ad3,c3,rfl,rfl⟩
 have hii:(i:Int).toNat=i:=ab
 have hlt' : (i:Int).toNat<xs.length:=ab
 have hyi:=hx1 _ (aG hlt)
 have e:dN (xs.take (i+1)) ys=(eX ys xs[i]!).foldl aR (dN (xs.take i) ys):=gB (fun out y=>(eX ys y).foldl aR out) [] hlt
 have hrt:=nh hy1 hyi
 have hro:=uO hy1 hyi
 repeat first|refine aa ?_|intro
 rw [hii]
 rename_i b9
 generalize dN (xs.take i) ys=out at *
 generalize xs[i]! = y at *
 refine G.ent (L':=osl ah 3 tLot (some ⟨b9,0,none⟩) 1 [y]::osl ah 3 tLot ad3 c3 out::L) ?_ ?_
 ·refine Ent.trans (B:=obj b9 tLot (ah y)::osl ah 3 tLot ad3 c3 out::L) ae ?_
  exact Ent.f7 (enc:=ah) (sz:=3) (xs:=[y]) (by simp) rfl (by intro z hz;rw [List.mem_singleton.1 hz];rfl) (by simp)
 repeat first|refine aa ?_|intro
 refine G.loop (α:=Nat×Option Addr×Nat) (fun g=>g.1≤ys.length) (fun g=>[(0,.slice ad1 xs.length c1),(1,.slice ad2 ys.length c2),(7,.slice ad3 out.length c3),(8,.int .i64 (i:Int)),(9,.slice g.2.1 (eX (ys.take g.1) y).length g.2.2),(10,.int .i64 (g.1:Int))]) (fun g=>osl ah 3 tLot g.2.1 g.2.2 (eX (ys.take g.1) y)::osl ah 3 tLot ad3 c3 out::L) (fun g=>ys.length - g.1) (0,some ⟨b9,0,none⟩,1) (al _) ai (Ent.refl _) ?_
 rintro ⟨k,ad4,c4⟩ hk
 dsimp only at hk ⊢
 obtain ⟨r1,_,r3⟩:=hrt k hk
 by_cases hlk:k<ys.length
 case pos =>
  have hkk:(k:Int).toNat=k:=ab
  have e2:eX (ys.take (k+1)) y=subL (eX (ys.take k) y) ys[k]!:=gB subL [y] hlk
  repeat first|refine aa ?_|intro
  rw [hkk]
  refine GO.ef (Ef.d7 (Bq ad4 (eX (ys.take k) y).length c4 (eX (ys.take k) y) ys[k]! rfl ab r1 (hy1 _ (aG hlk))) rfl) ac ?_
  rintro _ _ ⟨ad5,c5,rfl,rfl⟩
  repeat first|refine aa ?_|intro
  refine ⟨(k+1,ad5,c5),by dsimp only;omega,by dsimp only;omega,?_,?_⟩
  ·dsimp only
   rw [e2,aM k]
   exact ai
  ·dsimp only
   rw [e2]
   exact ae
 obtain rfl:k=ys.length:=ab
 rw [aZ] at *
 clear hrt
 obtain ⟨_,_,r5⟩:=hro
 generalize eX ys y=r at *
 have hpt:=qg r1 w1
 repeat first|refine aa ?_|intro
 refine G.loop (α:=Nat×Option Addr×Nat) (fun g=>g.1≤r.length) (fun g=>[(0,.slice ad1 xs.length c1),(1,.slice ad2 ys.length c2),(7,.slice g.2.1 ((r.take g.1).foldl aR out).length g.2.2),(8,.int .i64 (i:Int)),(9,.slice ad4 r.length c4),(11,.int .i64 (g.1:Int))]) (fun g=>osl ah 3 tLot g.2.1 g.2.2 ((r.take g.1).foldl aR out)::osl ah 3 tLot ad4 c4 r::L) (fun g=>r.length - g.1) (0,ad3,c3) (al _) ai (by show Ent _ (osl ah 3 tLot ad3 c3 out::osl ah 3 tLot ad4 c4 r::L);exact ae) ?_
 rintro ⟨k,ad5,c5⟩ hk
 dsimp only at hk ⊢
 obtain ⟨p1,p2⟩:=hpt k hk
 by_cases hlk:k<r.length
 case pos =>
  have hkk:(k:Int).toNat=k:=ab
  have e2:(r.take (k+1)).foldl aR out=aR ((r.take k).foldl aR out) r[k]!:=gB aR out hlk
  have hrk:=r1 _ (aG hlk)
  unfold LotOk at hrk
  repeat first|refine aa ?_|intro
  rw [hkk]
  refine GO.ef (Ef.d7 (kw ad5 ((r.take k).foldl aR out).length c5 ((r.take k).foldl aR out) r[k]! rfl ab (fun z hz=>by have:=p1 z hz;unfold LotOk at this;unfold LotW;omega) (by unfold LotW;omega)) rfl) ac ?_
  rintro _ _ ⟨ad6,c6,rfl,rfl⟩
  repeat first|refine aa ?_|intro
  refine ⟨(k+1,ad6,c6),by dsimp only;omega,by dsimp only;omega,?_,?_⟩
  ·dsimp only
   rw [e2,aM k]
   exact ai
  ·dsimp only
   rw [e2]
   exact ae
 obtain rfl:k=r.length:=ab
 rw [aZ]
 repeat first|refine aa ?_|intro
 refine ⟨(i+1,ad5,c5),by dsimp only;omega,by dsimp only;omega,?_,?_⟩
 ·dsimp only
  rw [e,aM i]
  exact ai
 ·dsimp only
  rw [e]
  exact ae
theorem ml {L:List HP} (ad1:Option Addr) (n1 c1:Nat) (xs:List Lot) [Rds L ad1 Lot ah 3 xs] (ad2:Option Addr) (n2 c2:Nat) (ys:List Lot) [Rds L ad2 Lot ah 3 ys] (hn1:n1=xs.length) (hn2:n2=ys.length) (hx:ey xs) (hy:ey ys) :
  Tri Tryz.prog 145 #[.slice ad1 n1 c1,.slice ad2 n2 c2] L (fun v L'=>∃ ad' cap',v=.slice ad' (fh xs ys).length cap'∧L' = osl ah 3 tLot ad' cap' (fh xs ys)::L):=by
 refine Tri.body (args:=[.slice ad1 n1 c1,.slice ad2 n2 c2]) 9 Ih Tryz.func145 rfl rfl rfl (by simp) ?_
 have hs:=kj hx.1
 have hx2:=hx.2
 repeat first|refine aa ?_|intro
 refine GO.ef (Ef.d7 (pB ad1 n1 c1 xs hn1 hx) rfl) ac ?_
 rintro _ _ ⟨ad3,c3,rfl,rfl⟩
 repeat first|refine aa ?_|intro
 refine GO.ef (Ef.d7 (nL ad3 (setL xs).length c3 (setL xs) ad2 n2 c2 ys rfl hn2 ⟨hs.2,ab⟩ hy) rfl) ac ?_
 rintro _ _ ⟨ad4,c4,rfl,rfl⟩
 repeat first|refine aa ?_|intro
 have e:fh xs ys=dN (setL xs) ys:=rfl
 rw [e]
 refine KX.d7 ag ?_ ⟨ad4,c4,rfl,rfl⟩
 exact ae
theorem re {L:List HP} (ad1:Option Addr) (n1 c1:Nat) (xs:List Lot) [Rds L ad1 Lot ah 3 xs] (ad2:Option Addr) (n2 c2:Nat) (ys:List Lot) [Rds L ad2 Lot ah 3 ys] (hn1:n1=xs.length) (hn2:n2=ys.length) (hx:ey xs) (hy:ey ys) (hm:(fh xs ys).length≤4096) :
  Tri Tryz.prog 98 #[.slice ad1 n1 c1,.slice ad2 n2 c2] L (fun v L'=>∃ ad' cap',v=.slice ad' (fK xs ys).length cap'∧L' = osl ah 3 tLot ad' cap' (fK xs ys)::L):=by
 have hy2:=hy.2
 refine Tri.body (args:=[.slice ad1 n1 c1,.slice ad2 n2 c2]) 15 en98 Tryz.func98 rfl rfl rfl (by simp) ?_
 repeat first|refine aa ?_|intro
 refine GO.ef (Ef.d7 (gI ad2 n2 c2 ys hn2 ab) rfl) ac ?_
 rintro _ L ⟨rfl,rfl⟩
 rw [aL hy]
 repeat first|refine aa ?_|intro
 refine GO.ef (Ef.d7 (ml ad1 n1 c1 xs ad2 n2 c2 ys hn1 hn2 hx hy) rfl) ac ?_
 rintro _ _ ⟨ad3,c3,rfl,rfl⟩
 repeat first|refine aa ?_|intro
 refine GO.ef (Ef.d7 (ml ad1 n1 c1 xs ad3 (fh xs ys).length c3 (fh xs ys) hn1 rfl hx ⟨(jN hx.1 hy.1).1,hm⟩) rfl) ac ?_
 rintro _ _ ⟨ad4,c4,rfl,rfl⟩
 repeat first|refine aa ?_|intro
 have e:fK xs ys=fh xs (fh xs ys):=rfl
 rw [e]
 refine KX.d7 ag ?_ ⟨ad4,c4,rfl,rfl⟩
 exact ae
theorem ob {L:List HP} (ad1:Option Addr) (n1 c1:Nat) (xs:List Lot) [Rds L ad1 Lot ah 3 xs] (ad2:Option Addr) (n2 c2:Nat) (ys:List Lot) [Rds L ad2 Lot ah 3 ys] (hn1:n1=xs.length) (hn2:n2=ys.length) (hm1:n1≤9223372036854775807) (hm2:n2≤9223372036854775807) :
  Tri Tryz.prog 224 #[.slice ad1 n1 c1,.slice ad2 n2 c2] L (fun v L'=>v=.bool (dB (fA xs ys))∧L' = L):=by
 refine Tri.body (args:=[.slice ad1 n1 c1,.slice ad2 n2 c2]) 22 GQ Tryz.func224 rfl rfl rfl (by simp) ?_
 repeat first|refine aa ?_|intro
 refine GO.ef (Ef.d7 (gI ad1 n1 c1 xs hn1 hm1) rfl) ac ?_
 rintro _ L ⟨rfl,rfl⟩
 repeat first|refine aa ?_|intro
 refine GO.ef (Ef.d7 (gI ad2 n2 c2 ys hn2 hm2) rfl) ac ?_
 rintro _ L ⟨rfl,rfl⟩
 by_cases hx:ey xs
 case neg =>
  rw [aC hx]
  repeat first|refine aa ?_|intro
  exact KX.d7 ag ae ⟨by rw [aC (show ¬fA xs ys from fun q=>hx q.1)];rfl,rfl⟩
 rw [aL hx]
 by_cases hy:ey ys
 case neg =>
  rw [aC hy]
  repeat first|refine aa ?_|intro
  exact KX.d7 ag ae ⟨by rw [aC (show ¬fA xs ys from fun q=>hy q.2.1)];rfl,rfl⟩
 rw [aL hy]
 have hmo:=(jN hx.1 hy.1).2
 have hmul:xs.length*(ys.length+1)≤4096*4097:=Nat.mul_le_mul hx.2 (by have:=hy.2;omega)
 repeat first|refine aa ?_|intro
 refine GO.ef (Ef.d7 (ml ad1 n1 c1 xs ad2 n2 c2 ys hn1 hn2 hx hy) rfl) ac ?_
 rintro _ _ ⟨ad3,c3,rfl,rfl⟩
 repeat first|refine aa ?_|intro
 refine KX.d7 ag ae ⟨?_,rfl⟩
 by_cases h0:fh xs ys=[]
 ·rw [aL (show ((fh xs ys).length:Int)=0 by rw [h0];rfl),aL (show fA xs ys from ⟨hx,hy,h0⟩)]
  rfl
 ·rw [aC (show ¬((fh xs ys).length:Int)=0 from fun q=>h0 (aQ ab)),aC (show ¬fA xs ys from fun q=>h0 q.2.2)]
  rfl
end
end Go.Proofs.YtommnllbflbdmaaGreatDoor
