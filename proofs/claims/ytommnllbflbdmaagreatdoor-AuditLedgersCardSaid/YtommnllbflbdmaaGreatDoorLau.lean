/- Lemmas. -/
import Derived.Test.YtommnllbflbdmaaGreatDoorLat
set_option linter.all false
set_option maxHeartbeats 2000000
namespace Go.Proofs.YtommnllbflbdmaaGreatDoor
section
open Go.V
attribute [local irreducible] G GO GP GPW GPK Ev Ef EfR Ent CB GB V.Enters
theorem vH{L:LH}(ad:OA)(c:Nat)(l:LL)(n:Int)(mx:Bool)[hrd:Rds L ad Lot an 3 l](hll:l.length≤4096)(hl:∀x∈l,LotOk x)(h0:0≤n)(h1:n≤lsum l)(h2:n≤1099511627776) :
  Tri ah 271 #[.slice ad l.length c,ab n,.bool mx] L (fun v L'=>∃ad' cap',v=.slice ad' l.length cap'∧L' = osl (encZ .i64) 1 tInt ad' cap' ((List.range l.length).map (tkC mx l n))::L):=by
 have hwl:=sD l;refine Tri.body (args:=[.slice ad l.length c,ab n,.bool mx]) 56 HB Tryz.func271 rfl rfl rfl (by simp) ?_;repeat first|refine aa ?_|intro
 refine G.loop (α:=Nat×(OA×Nat)×OA×Nat) (fun z=>z.1≤l.length) (fun z=>[(0,.slice ad l.length c),(1,ab n),(2,.bool mx),(7,.slice z.2.1.1 z.1 z.2.1.2),(8,.slice z.2.2.1 z.1 z.2.2.2),(9,ab (fuR l n z.1)),(10,ab (z.1:Int))]) (fun z=>osl (encZ .i64) 1 tInt z.2.1.1 z.2.1.2 ((wts l).take z.1)::osl (encZ .i64) 1 tInt z.2.2.1 z.2.2.2 ((List.range z.1).map (fuC l n))::L) (fun z=>l.length - z.1) (0,(none,0),none,0) (ao _) aj ((Ent.d8 (encZ .i64) 1 tInt).trans (Ent.d8 (encZ .i64) 1 tInt)) ?_;rintro⟨i,⟨a1,c1⟩,a2,c2⟩ hi;dsimp only at hi ⊢;have hql:((wts l).take i).length=i:=by rw[aY];omega
 have hrl:((List.range i).map (fuC l n)).length=i:=by simp
 have hfr:=nq h0 (fun x h=>(hl x h).w) i hi;by_cases hlt:i<l.length
 case pos =>
  have hii:(i:Int).toNat=i:=aA i;obtain⟨o1,o2,o3,o4,o5⟩:=hl _ (aI hlt);have hfc:=nr h0 (fun x h=>(hl x h).w) i hlt
  have e1:(wts l).take i++[l[i]!.2.2]=(wts l).take (i+1):=by
   rw[aC ac,←getElem!_of ac,mY hlt]
  have e2:(List.range i).map (fuC l n)++[fuC l n i]=(List.range (i+1)).map (fuC l n):=by rw[eu,aZ];rfl
  have ec:min (fuR l n i) l[i]!.2.2=fuC l n i:=rfl;have er:fuR l n i - fuC l n i=fuR l n (i+1):=rfl;repeat first|refine aa ?_|intro
  rw[hii];refine GO.ef (Ef.d8 (enc:=encZ .i64) (l[i]!.2.2) rfl rfl rfl hql.symm rfl (by rfl) (mj _ _) ac ac) ae ?_;rintro _ _⟨a3,c3,rfl,rfl⟩;rw[e1];repeat first|refine aa ?_|intro
  rw[hii,ec];repeat first|refine aa ?_|intro
  refine GO.ef (Ef.d8 (enc:=encZ .i64) (fuC l n i) rfl rfl rfl hrl.symm rfl (by rfl) (mj _ _) ac ac) ae ?_;rintro _ _⟨a4,c4,rfl,rfl⟩;rw[e2];repeat first|refine aa ?_|intro
  rw[er];refine⟨(i+1,(a3,c3),a4,c4),by dsimp only;omega,by dsimp only;omega,?_,by exact ag⟩;dsimp only;rw[aP i,show((wts l).take (i+1)).length=i+1 by rw[aY];omega,show((List.range (i+1)).map (fuC l n)).length=i+1 by simp];exact aj
 obtain rfl:i=l.length:=ac;rw[←hwl,bG,hwl];cases mx with
 | false =>
  have et:(List.range l.length).map (fuC l n)=(List.range l.length).map (tkC false l n):=rfl;rw[et];repeat first|refine aa ?_|intro
  exact KX.d7 ai ag ⟨a2,c2,rfl,rfl⟩
 | true =>
  by_cases hn:0<n
  ·have et:tkC true l n=shC l n:=if_pos ⟨rfl,hn⟩;rw[et]
   have hne:l≠[]:=by
    intro q;subst q;have:lsum ([]:LL)=0:=rfl;omega
   repeat first|refine aa ?_|intro
   refine GO.ef (Ef.d7 (xo a1 c1 l n hll hl hne h0 h1 h2) rfl) ae ?_;rintro _ _⟨a3,c3,rfl,rfl⟩;repeat first|refine aa ?_|intro
   exact KX.d7 ai ag ⟨a3,c3,rfl,rfl⟩
  ·have et:tkC true l n=fuC l n:=if_neg (fun q=>hn q.2);rw[et];repeat first|refine aa ?_|intro
   exact KX.d7 ai ag ⟨a2,c2,rfl,rfl⟩
abbrev xC:List Stp:=[.ev 0,.ev 1,.ev 2,.ev 3,.ev 4,.ev 5,.ev 6,.ev 7,.ev 8,.ev 9,.ev 10,.ev 11,.ev 12,.ev 13,.ev 14,.ev 15,.ef 16,.ev 17]
abbrev xB:List Stp:=[.ev 0,.ev 1,.ev 2,.ev 3,.ev 4,.ev 5,.ev 6,.ev 7,.ev 8,.ev 9,.ev 10,.ev 11,.ev 12,.ev 13,.ev 14,.ev 15,.ev 16,.ev 17,.ev 18,.ev 19,.ev 20,.ev 21,.ev 22,.ev 23,.ev 24,.ev 25,.ev 26,.ef 27,.ev 28]
theorem eY{φ ψ:Prop}(k:ψ)(h:Hid ψ→φ:=by intro k;(with_reducible apply G.d8);first|refine G.d7 (N:=87) (id:=11) xC mixed ap (Hid.out k)|refine G.d7 (N:=87) (id:=12) xB mixed ap (Hid.out k)):φ:=h ⟨k⟩
theorem Ao{L:LH}(ad:OA)(c:Nat)(xs:LL)(n:Int)(mx:Bool)[hrd:Rds L ad Lot an 3 xs](hb:xs.length≤4096)(hx:∀l∈xs,LotOk l)(hn0:0≤n)(hn1:n≤1099511627776) :
  Tri ah 226 #[.slice ad xs.length c,ab n,.bool mx] L (fun v L' =>
   (lsum xs<n∧v=.tuple #[.slice none 0 0,.slice none 0 0,ab 10]∧L' = L) ∨
   (n≤lsum xs∧∃ad1 c1 ad2 c2,v=.tuple #[.slice ad1 (gN mx xs n).length c1,.slice ad2 (eJ mx xs n).length c2,ab 0]∧L' = osl an 3 tLot ad1 c1 (gN mx xs n)::osl an 3 tLot ad2 c2 (eJ mx xs n)::L)):=by
 refine Tri.body (args:=[.slice ad xs.length c,ab n,.bool mx]) 87 Ik Tryz.func226 rfl rfl rfl (by simp) ?_;repeat first|refine aa ?_|intro _|refine eY ?_
 refine GO.ef (Ef.d7 (qb ad xs.length c xs rfl hb hx) rfl) ae ?_;rintro _ L ⟨rfl,rfl⟩;repeat first|refine aa ?_|intro _|refine eY ?_
 refine GO.ef (Ef.d7 (jj ad xs.length c xs rfl hb hx) rfl) ae ?_;rintro _ L ⟨rfl,rfl⟩;by_cases hs:lsum xs<n
 ·repeat first|refine aa ?_|intro _|refine eY ?_
  exact KX.d7 ai (Ent.refl _) (.inl ⟨hs,rfl,rfl⟩)
 have hs' : n≤lsum xs:=ac;repeat first|refine aa ?_|intro _|refine eY ?_
 refine GO.ef (Ef.d7 (vH ad c xs n mx hb hx hn0 hs' hn1) rfl) ae ?_;rintro _ _⟨ak,ck,rfl,rfl⟩;obtain⟨cs,hcs⟩:∃cs,cs=tkC mx xs n:=⟨_,rfl⟩;have hcb:∀k,k<xs.length→0≤cs k∧cs k≤xs[k]!.2.2:=by rw[hcs];exact mZ mx xs n hx hn0 hs'
 have ht:gN mx xs n=divF xs cs xs.length:=by rw[hcs];rfl
 have hlf:eJ mx xs n=divR xs cs xs.length:=by rw[hcs];rfl
 have hkl:((List.range xs.length).map cs).length=xs.length:=by simp
 rw[←hcs,ht,hlf];repeat first|refine aa ?_|intro _|refine eY ?_
 refine G.loop (α:=Nat×(OA×Nat)×OA×Nat) (fun z=>z.1≤xs.length) (fun z=>[(0,.slice ad xs.length c),(10,.slice ak xs.length ck),(11,.slice z.2.1.1 (divF xs cs z.1).length z.2.1.2),(12,.slice z.2.2.1 (divR xs cs z.1).length z.2.2.2),(13,ab (z.1:Int))]) (fun z=>osl an 3 tLot z.2.1.1 z.2.1.2 (divF xs cs z.1)::osl an 3 tLot z.2.2.1 z.2.2.2 (divR xs cs z.1)::osl (encZ .i64) 1 tInt ak ck ((List.range xs.length).map cs)::L) (fun z=>xs.length - z.1) (0,(none,0),none,0) (ao _) aj ((Ent.d8 an 3 tLot).trans (Ent.d8 an 3 tLot)) ?_;rintro⟨i,⟨a1,c1⟩,a2,c2⟩ hi;dsimp only at hi ⊢;by_cases hlt:i<xs.length
 case neg =>
  obtain rfl:i=xs.length:=ac;repeat first|refine aa ?_|intro _|refine eY ?_
  refine KX.d7 ai ?_ (.inr ⟨hs',a1,c1,a2,c2,rfl,rfl⟩);exact ag
 have hii:(i:Int).toNat=i:=aA i;have hw:=hx _ (aI hlt);obtain⟨w1,w2,w3,w4⟩:=hw.w;obtain⟨k0,k1⟩:=hcb i hlt;have hkg:((List.range xs.length).map cs)[(i:Int).toNat]! = cs i:=by rw[hii];exact gE hlt
 obtain⟨dw1,dw2⟩:=uX (fun x h=>(hx x h).w) hcb i hi;obtain⟨p1,p2⟩:=pc_w hlt (fun x h=>(hx x h).w) ⟨k0,k1⟩;obtain⟨dl1,dl2⟩:=jF xs cs i;have hl0:(i:Int).toNat<xs.length:=ac;obtain⟨kv,hkv⟩:∃kv,kv=((List.range xs.length).map cs)[(i:Int).toNat]!:=⟨_,rfl⟩;have hkc:kv=cs i:=by rw[hkv,hkg]
 have e1:be (divF xs cs i) (xs[(i:Int).toNat]!.1,xs[(i:Int).toNat]!.2.1,((List.range xs.length).map cs)[(i:Int).toNat]!)=divF xs cs (i+1):=by rw[hkg,hii,pq];rfl
 have e2:be (divR xs cs i) (xs[(i:Int).toNat]!.1,xs[(i:Int).toNat]!.2.1+((List.range xs.length).map cs)[(i:Int).toNat]!,xs[(i:Int).toNat]!.2.2 - ((List.range xs.length).map cs)[(i:Int).toNat]!)=divR xs cs (i+1):=by rw[hkg,hii,mJ];rfl
 have q1:LotW (xs[(i:Int).toNat]!.1,xs[(i:Int).toNat]!.2.1,((List.range xs.length).map cs)[(i:Int).toNat]!):=by rw[hkg,hii];exact p1
 have q2:LotW (xs[(i:Int).toNat]!.1,xs[(i:Int).toNat]!.2.1+((List.range xs.length).map cs)[(i:Int).toNat]!,xs[(i:Int).toNat]!.2.2 - ((List.range xs.length).map cs)[(i:Int).toNat]!):=by rw[hkg,hii];exact p2
 have k0' : 0≤((List.range xs.length).map cs)[(i:Int).toNat]!∧((List.range xs.length).map cs)[(i:Int).toNat]!≤xs[(i:Int).toNat]!.2.2:=by rw[hkg,hii];exact⟨k0,k1⟩
 rw[←hii] at w1 w2 w3 w4;repeat first|refine aa ?_|intro _|refine eY ?_
 refine GPW.ef (Ef.d7 (kU a1 (divF xs cs i).length c1 (divF xs cs i) _ rfl ac dw1 q1) rfl) ae ?_;rintro _ _⟨a3,c3,rfl,rfl⟩;rw[e1];repeat first|refine aa ?_|intro _|refine eY ?_
 refine GPW.ef (Ef.d7 (kU a2 (divR xs cs i).length c2 (divR xs cs i) _ rfl ac dw2 q2) rfl) ae ?_;rintro _ _⟨a4,c4,rfl,rfl⟩;rw[e2];repeat first|refine aa ?_|intro _|refine eY ?_
 refine⟨(i+1,(a3,c3),a4,c4),by dsimp only;omega,by dsimp only;omega,?_,by exact ag⟩;dsimp only;rw[aP i];exact aj
instance:DecidablePred LotOk:=fun l=>by unfold LotOk;infer_instance
def eZ(xs:LL):Prop:=(∀x∈xs,LotOk x)∧xs.length≤4096
instance (xs:LL):Decidable (eZ xs):=by unfold eZ;infer_instance
theorem sP{L:LH}(x:Lot):Tri ah 233 #[.agg (an x).toArray] L (fun v L'=>v=.bool (dB (LotOk x))∧L' = L):=by
 obtain⟨f,a,n⟩:=x;refine Tri.body (args:=[.agg (an (f,a,n)).toArray]) 29 Ff Tryz.func233 rfl rfl rfl (by simp) ?_;simp only[an];have hno:∀{p:Prop},¬p→(LotOk (f,a,n)→p)→dB (LotOk (f,a,n))=false:=fun h q=>aF (fun r=>h (q r));by_cases h1:0≤f
 case neg =>
  repeat first|refine aa ?_|intro
  exact KX.d7 ai ag ⟨by rw[hno h1 (fun q=>q.1)];rfl,rfl⟩
 by_cases h2:0≤a
 case neg =>
  repeat first|refine aa ?_|intro
  exact KX.d7 ai ag ⟨by rw[hno h2 (fun q=>q.2.1)];rfl,rfl⟩
 by_cases h3:1≤n
 case neg =>
  repeat first|refine aa ?_|intro
  exact KX.d7 ai ag ⟨by rw[hno h3 (fun q=>q.2.2.2.1)];rfl,rfl⟩
 by_cases h4:n≤1099511627776
 case neg =>
  repeat first|refine aa ?_|intro
  exact KX.d7 ai ag ⟨by rw[hno h4 (fun q=>by have:=q.2.2.2.2;dsimp only at this;omega)];rfl,rfl⟩
 repeat first|refine aa ?_|intro
 refine KX.d7 ai ag ⟨?_,rfl⟩;by_cases h5:a≤1099511627776 - n
 ·rw[aU h5,aU (show LotOk (f,a,n) from⟨h1,h2,by dsimp only;omega,h3,by dsimp only;omega⟩)];rfl
 ·rw[aF h5,hno h5 (fun q=>by have:=q.2.2.2.2;dsimp only at this;omega)];rfl
theorem ip{L:LH}(ad:OA)(n c:Nat)(xs:LL)[Rds L ad Lot an 3 xs](hn:n=xs.length)(hm:n≤9223372036854775807) :
  Tri ah 144 #[.slice ad n c] L (fun v L'=>v=.bool (dB (eZ xs))∧L' = L):=by
 subst hn;refine Tri.body (args:=[.slice ad xs.length c]) 21 Fg Tryz.func144 rfl rfl rfl (by simp) ?_;repeat first|refine aa ?_|intro
 refine G.loop (α:=Nat) (fun i=>i≤xs.length∧∀k,k<i→LotOk xs[k]!) (fun i=>[(0,.slice ad xs.length c),(3,ab (i:Int))]) (fun _=>L) (fun i=>xs.length - i) 0 ⟨ao _,fun k hk=>absurd hk (cd k)⟩ aj (Ent.refl _) ?_;rintro i ⟨hi,hok⟩;by_cases hlt:i<xs.length
 case neg =>
  repeat first|refine aa ?_|intro
  refine KX.d7 ai (Ent.refl _) ⟨?_,rfl⟩
  have hall:∀x∈xs,LotOk x:=fun x hx=>by
   obtain⟨k,hk,e⟩:=List.mem_iff_getElem.1 hx;have h2:=hok k ac;rw[getElem!_of hk,e] at h2;exact h2
  by_cases h:xs.length≤4096
  ·rw[aU (show(xs.length:Int)≤4096 by omega),aU (show eZ xs from⟨hall,h⟩)];rfl
  ·rw[aF (show ¬(xs.length:Int)≤4096 by omega),aF (show ¬eZ xs from fun q=>h q.2)];rfl
 have hii:(i:Int).toNat=i:=ac;repeat first|refine aa ?_|intro
 rw[hii];refine GO.ef (Ef.d7 (sP xs[i]!) rfl) ae ?_;rintro _ L ⟨rfl,rfl⟩;by_cases hp:LotOk xs[i]!
 ·rw[aU hp];repeat first|refine aa ?_|intro
  refine⟨i+1,⟨ac,fun k hk=>?_⟩,ac,?_,Ent.refl _⟩
  ·by_cases e:k=i
   ·rw[e];exact hp
   ·exact hok k ac
  ·rw[aP i];exact aj
 ·rw[aF hp];repeat first|refine aa ?_|intro
  exact KX.d7 ai (Ent.refl _) ⟨by rw[aF (show ¬eZ xs from fun q=>hp (q.1 _ (aI hlt)))];rfl,rfl⟩
def insS(f:Int)(z:LL×LL×Int×Int)(x:Lot):LL×LL×Int×Int :=
 if x.1<f∨(x.1=f∧x.2.1+x.2.2<z.2.2.1) then(z.1++[x],z.2)
 else if f<x.1∨z.2.2.2<x.2.1 then(z.1,z.2.1++[x],z.2.2)
 else(z.1,z.2.1,min z.2.2.1 x.2.1,max z.2.2.2 (x.2.1+x.2.2))
def insG(s:LL)(l:Lot):LL×LL×Int×Int:=s.foldl (insS l.1) ([],[],l.2.1,l.2.1+l.2.2)
def insL(s:LL)(l:Lot):LL:=(insG s l).1++[(l.1,(insG s l).2.2.1,(insG s l).2.2.2 - (insG s l).2.2.1)]++(insG s l).2.1
structure InsI (l:Lot) (n:Nat) (z:LL×LL×Int×Int):Prop where
 len:z.1.length+z.2.1.length≤n
 ok1:∀x∈z.1,LotOk x
 ok2:∀x∈z.2.1,LotOk x
 lo:0≤z.2.2.1∧z.2.2.1≤l.2.1
 hi:l.2.1+l.2.2≤z.2.2.2∧z.2.2.2≤1099511627776
theorem InsI.step{l:Lot}{n:Nat}{z:LL×LL×Int×Int}(h:InsI l n z){x:Lot}(hx:LotOk x):InsI l (n+1) (insS l.1 z x):=by
 obtain⟨h1,h2,h3,h4,h5⟩:=h;have hx2:=hx;unfold LotOk at hx2
 have hsn:∀{t:LL},(∀y∈t,LotOk y)→∀y∈t++[x],LotOk y:=fun ht y hy=>by
  rcases List.mem_append.1 hy with q|q
  ·exact ht y q
  ·rw[List.mem_singleton.1 q];exact hx
 unfold insS;split
 ·exact⟨by simp only[az,bC];omega,hsn h2,h3,h4,h5⟩
 ·split
  ·exact⟨by simp only[az,bC];omega,h2,hsn h3,h4,h5⟩
  ·exact⟨by dsimp only;omega,h2,h3,by dsimp only;omega,by dsimp only;omega⟩
theorem tT{s:LL}{l:Lot}{i:Nat}(h:i<s.length):insG (s.take (i+1)) l=insS l.1 (insG (s.take i) l) s[i]!:=by
 unfold insG;rw[aC h,cJ,getElem!_of h];rfl
theorem qS{s:LL}{l:Lot}(hl:LotOk l)(hs:∀x∈s,LotOk x):∀i,i≤s.length→InsI l i (insG (s.take i) l)
 | 0,_=>by
  unfold LotOk at hl;exact⟨aB _,(fun _ h=>by cases h),(fun _ h=>by cases h),⟨hl.2.1,bu _⟩,⟨bu _,by show l.2.1+l.2.2≤_;omega⟩⟩
 | i+1,h=>by
  rw[tT ac];exact(qS hl hs i ac).step (hs _ (aI ac))
theorem FU{s:LL}{l:Lot}(hl:LotOk l)(hs:∀x∈s,LotOk x):(insL s l).length≤s.length+1∧∀x∈insL s l,LotOk x:=by
 have h:=qS hl hs s.length (aB _);rw[bG] at h;obtain⟨h1,h2,h3,h4,h5⟩:=h;unfold LotOk at hl;refine⟨by unfold insL;simp only[az,bC];omega,fun x hx=>?_⟩;unfold insL at hx;rcases List.mem_append.1 hx with hx|hx
 ·rcases List.mem_append.1 hx with hx|hx
  ·exact h2 x hx
  ·rw[List.mem_singleton.1 hx];unfold LotOk;dsimp only;omega
 ·exact h3 x hx
theorem vD{L:LH}(ad:OA)(n c:Nat)(xs:LL)(x:Lot)[Rds L ad Lot an 3 xs](hn:n=xs.length)(hl:xs.length≤100000)(hxs:∀y∈xs,LotOk y)(hx:LotOk x) :
  Tri ah 269 #[.slice ad n c,.agg (an x).toArray] L (fun v L'=>∃ad' cap',v=.slice ad' (insL xs x).length cap'∧L' = osl an 3 tLot ad' cap' (insL xs x)::L):=by
 subst hn;have hinv:=qS hx hxs;obtain⟨f,a,m⟩:=x;have hx2:=hx;unfold LotOk at hx2;dsimp only at hx2;refine Tri.body (args:=[.slice ad xs.length c,.agg (an (f,a,m)).toArray]) 91 HD Tryz.func269 rfl rfl rfl (by simp) ?_;simp only[an];repeat first|refine aa ?_|intro
 rename_i b3
 refine G.loop (α:=Nat×OA×Nat×OA×Nat) (fun g=>g.1≤xs.length) (fun g=>[(0,.slice ad xs.length c),(3,au b3),(5,.slice g.2.1 (insG (xs.take g.1) (f,a,m)).1.length g.2.2.1),(6,.slice g.2.2.2.1 (insG (xs.take g.1) (f,a,m)).2.1.length g.2.2.2.2),(7,ab (insG (xs.take g.1) (f,a,m)).2.2.1),(8,ab (insG (xs.take g.1) (f,a,m)).2.2.2),(9,ab (g.1:Int))])
  (fun g=>osl an 3 tLot g.2.1 g.2.2.1 (insG (xs.take g.1) (f,a,m)).1::osl an 3 tLot g.2.2.2.1 g.2.2.2.2 (insG (xs.take g.1) (f,a,m)).2.1::obj b3 tLot [ab f,ab a,ab m]::L) (fun g=>xs.length - g.1) (0,none,0,none,0) (ao _) aj ((Ent.d8 an 3 tLot).trans ((Ent.d8 an 3 tLot).trans ag)) ?_
 rintro⟨i,ad1,c1,ad2,c2⟩ hi;dsimp only at hi ⊢;obtain⟨i1,i2,i3,i4,i5⟩:=hinv i hi;dsimp only at i4 i5;by_cases hlt:i<xs.length
 case neg =>
  obtain rfl:i=xs.length:=ac;rw[bG] at *;have e:insL xs (f,a,m)=(insG xs (f,a,m)).1++[(f,(insG xs (f,a,m)).2.2.1,(insG xs (f,a,m)).2.2.2 - (insG xs (f,a,m)).2.2.1)]++(insG xs (f,a,m)).2.1:=rfl;rw[e];generalize insG xs (f,a,m)=z at *;repeat first|refine aa ?_|intro
  refine GO.ef (Ef.d8 (enc:=an) (f,z.2.2.1,z.2.2.2 - z.2.2.1) rfl rfl rfl rfl rfl (by rfl) (cx _) ac ac) ae ?_;rintro _ _⟨ad3,cap3,rfl,rfl⟩;repeat first|refine aa ?_|intro
  refine GO.ef (Ef.e7 (enc:=an) (xs:=z.1++[(f,z.2.2.1,z.2.2.2 - z.2.2.1)]) (ys:=z.2.1) rfl rfl rfl rfl rfl (fun e _=>cx e) (by simp;omega) (by simp;omega)) ae ?_;rintro _ _⟨ad4,cap4,rfl,rfl⟩;repeat first|refine aa ?_|intro
  exact KX.d7 ai ag ⟨ad4,cap4,rfl,rfl⟩
 have hlt' : (i:Int).toNat<xs.length:=ac;have hii:(i:Int).toNat=i:=ac;have hst:=tT (s:=xs) (l:=(f,a,m)) hlt;have hxi:=hxs _ (aI hlt);rw[←hii] at hst hxi;rw[hii] at hst;generalize insG (xs.take i) (f,a,m)=z at *;dsimp only at hst;obtain⟨y,hy⟩:∃y,xs[(i:Int).toNat]! = y:=⟨_,rfl⟩;rw[show xs[i]! = y by rw[←hy,hii]] at hst;have hyo:=hxi;rw[hy] at hyo;obtain⟨yf,ya,yn⟩:=y;have hy2:=hyo;unfold LotOk at hy2;dsimp only at hy2;unfold insS at hst;dsimp only at hst;repeat first|refine aa ?_|intro
 rw[hy];simp only[an];by_cases h1:yf<f
 ·rw[if_pos (.inl h1)] at hst;repeat first|refine aa ?_|intro
  refine GO.ef (Ef.d8 (enc:=an) (yf,ya,yn) rfl rfl rfl rfl rfl (by rfl) (cx _) ac ac) ae ?_;rintro _ _⟨ad3,cap3,rfl,rfl⟩;repeat first|refine aa ?_|intro
  refine⟨(i+1,ad3,cap3,ad2,c2),by dsimp only;omega,by dsimp only;omega,?_,?_⟩
  ·dsimp only;rw[hst,aP i];exact aj
  ·dsimp only;rw[hst];exact ag
 by_cases h2:yf=f
 ·by_cases h3:ya+yn<z.2.2.1
  ·rw[if_pos (.inr ⟨h2,h3⟩)] at hst;repeat first|refine aa ?_|intro
   refine GO.ef (Ef.d8 (enc:=an) (yf,ya,yn) rfl rfl rfl rfl rfl (by rfl) (cx _) ac ac) ae ?_;rintro _ _⟨ad3,cap3,rfl,rfl⟩;repeat first|refine aa ?_|intro
   refine⟨(i+1,ad3,cap3,ad2,c2),by dsimp only;omega,by dsimp only;omega,?_,?_⟩
   ·dsimp only;rw[hst,aP i];exact aj
   ·dsimp only;rw[hst];exact ag
  rw[if_neg (fun q=>q.elim h1 (fun q=>h3 q.2))] at hst;by_cases h4:z.2.2.2<ya
  ·rw[if_pos (.inr h4)] at hst;repeat first|refine aa ?_|intro
   refine GO.ef (Ef.d8 (enc:=an) (yf,ya,yn) rfl rfl rfl rfl rfl (by rfl) (cx _) ac ac) ae ?_;rintro _ _⟨ad3,cap3,rfl,rfl⟩;repeat first|refine aa ?_|intro
   refine⟨(i+1,ad1,c1,ad3,cap3),by dsimp only;omega,by dsimp only;omega,?_,?_⟩
   ·dsimp only;rw[hst,aP i];exact aj
   ·dsimp only;rw[hst];exact ag
  rw[if_neg (fun q=>q.elim (fun q=>by omega) h4)] at hst;repeat first|refine aa ?_|intro
  refine⟨(i+1,ad1,c1,ad2,c2),by dsimp only;omega,by dsimp only;omega,?_,?_⟩
  ·dsimp only;rw[hst,aP i];exact aj
  ·dsimp only;rw[hst];exact ag
 have h5:f<yf:=ac;rw[if_neg (fun q=>q.elim h1 (fun q=>h2 q.1)),if_pos (.inl h5)] at hst;repeat first|refine aa ?_|intro
 refine GO.ef (Ef.d8 (enc:=an) (yf,ya,yn) rfl rfl rfl rfl rfl (by rfl) (cx _) ac ac) ae ?_;rintro _ _⟨ad3,cap3,rfl,rfl⟩;repeat first|refine aa ?_|intro
 refine⟨(i+1,ad1,c1,ad3,cap3),by dsimp only;omega,by dsimp only;omega,?_,?_⟩
 ·dsimp only;rw[hst,aP i];exact aj
 ·dsimp only;rw[hst];exact ag
