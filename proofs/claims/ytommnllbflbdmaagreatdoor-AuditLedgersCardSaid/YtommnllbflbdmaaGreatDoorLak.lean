/- Lemmas. -/
import Derived.Test.YtommnllbflbdmaaGreatDoorLaj
set_option linter.all false
set_option maxHeartbeats 1000000
namespace Go.Proofs.YtommnllbflbdmaaGreatDoor
section
open Go.V
attribute [local irreducible] G GO GP GPW GPK Ev Ef EfR Ent CB GB Enters
def LotW(l:Lot):Prop:=0≤l.1∧0≤l.2.1∧0≤l.2.2∧l.2.1+l.2.2≤1099511627776
theorem LotOk.w{l:Lot}(h:LotOk l):LotW l:=by unfold LotOk at h;unfold LotW;omega
def kB(x b:Lot):Prop:=[x.1,x.2.1,0]=[b.1,b.2.1+b.2.2,0]
instance (x b:Lot):Decidable (kB x b):=by unfold kB;infer_instance
theorem lcont_iff{x b:Lot}:kB x b↔x.1=b.1∧x.2.1=b.2.1+b.2.2:=by simp[kB]
def be(l:LL)(x:Lot):LL :=
 if x.2.2=0 then l else if l.length≠0∧kB x l[l.length - 1]! then l.set (l.length - 1) (l[l.length - 1]!.1,l[l.length - 1]!.2.1,l[l.length - 1]!.2.2+x.2.2) else l++[x]
theorem kj(l:LL)(x:Lot):(be l x).length≤l.length+1:=by
 unfold be;split
 ·omega
 ·split<;>simp
theorem pO{l:LL}{x:Lot}(h:∀y∈l,LotW y)(hx:LotW x):∀y∈be l x,LotW y:=by
 unfold be;split
 ·exact h
 ·split
  ·rename_i hc;obtain⟨hc1,hc2⟩:=hc;rw[lcont_iff] at hc2;intro y hy;rcases cK hy with hy|rfl
   ·exact h y hy
   ·have:=h _ (aI (show l.length - 1<l.length by omega))
    unfold LotW at this hx ⊢;dsimp only;omega
  ·intro y hy;rcases List.mem_append.1 hy with hy|hy
   ·exact h y hy
   ·rw[List.mem_singleton] at hy;subst hy;exact hx
theorem ow{xs:LL}:∀{l:LL},(∀y∈l,LotW y)→(∀y∈xs,LotW y)→∀y∈xs.foldl be l,LotW y:=by
 induction xs with
 | nil=>intro l h _;exact h
 | cons x xs ih =>
  intro l h hx;exact ih (pO h (hx x (aw ..))) (fun y hy=>hx y (av _ hy))
theorem kE(xs:LL):∀l:LL,(xs.foldl be l).length≤l.length+xs.length:=by
 induction xs with
 | nil=>intro l;simp
 | cons x xs ih =>
  intro l;have h1:=ih (be l x);have h2:=kj l x;simp only[gn,bD];omega
theorem Bs{L:LH}(x b:Lot)(hb:LotW b):Tri ah 289 #[.agg (an x).toArray,.agg (an b).toArray] L (fun v L'=>v=.bool (dB (kB x b))∧L' = L):=by
 unfold LotW at hb;refine Tri.body (args:=[.agg (an x).toArray,.agg (an b).toArray]) 19 Ht Tryz.func289 rfl rfl rfl (by simp) ?_;repeat first|refine aa ?_|intro
 exact KX.d7 ai ag ⟨rfl,rfl⟩
abbrev AS:List Stp:=[.ev 0,.ev 1,.ev 2,.ev 3,.ev 4,.ev 5,.ev 6,.ev 7,.ev 8,.ef 9,.ev 10]
abbrev AR:List Stp:=[.ev 0,.ev 1,.ev 2,.ev 3,.ev 4,.ev 5,.ev 6,.ev 7,.ev 8,.ev 9,.ev 10,.ef 11]
theorem fD{φ ψ:Prop}(k:ψ)(h:Hid ψ→φ:=by intro k;(with_reducible apply G.d8);first|refine G.d7 (N:=39) (id:=4) AS mixed ap (Hid.out k)|refine G.d7 (N:=39) (id:=5) AR mixed ap (Hid.out k)):φ:=h ⟨k⟩
theorem oV{L:LH}(ad:OA)(cap:Nat)(xs:LL)(x:Lot)(hl:xs.length≤100000000)(hxs:∀y∈xs,LotW y)(hx:LotW x) :
  Tri ah 268 #[.slice ad xs.length cap,.agg (an x).toArray] (osl an 3 tLot ad cap xs::L) (fun v L'=>∃ad' cap',v=.slice ad' (be xs x).length cap'∧L' = osl an 3 tLot ad' cap' (be xs x)::L):=by
 refine Tri.body (args:=[.slice ad xs.length cap,.agg (an x).toArray]) 39 HE Tryz.func268 rfl rfl rfl (by simp) ?_;by_cases h0:x.2.2=0
 ·have e:be xs x=xs:=by unfold be;rw[if_pos h0]
  rw[e];repeat first|refine aa ?_|intro _|refine fD ?_
  exact KX.d7 ai ag ⟨ad,cap,rfl,rfl⟩
 by_cases h1:xs.length=0
 ·have e:be xs x=xs++[x]:=by unfold be;rw[if_neg h0,if_neg (fun h=>h.1 h1)]
  rw[e];repeat first|refine aa ?_|intro _|refine fD ?_
  refine GO.ef (Ef.d8 (enc:=an) (e:=x) rfl rfl rfl rfl rfl (by rfl) (cx _) ac ac) ae ?_;rintro _ _⟨ad2,cap2,rfl,rfl⟩;repeat first|refine aa ?_|intro _|refine fD ?_
  exact KX.d7 ai ag ⟨ad2,cap2,rfl,rfl⟩
 have hii:((xs.length:Int) - 1).toNat=xs.length - 1:=ac;have hlw:=hxs _ (aI (show xs.length - 1<xs.length by omega));rw[←hii] at hlw;repeat first|refine aa ?_|intro _|refine fD ?_
 refine GPW.ef (Ef.d7 (Bs x xs[((xs.length:Int) - 1).toNat]! hlw) rfl) ae ?_;rintro _ _⟨rfl,rfl⟩;by_cases hc:kB x xs[((xs.length:Int) - 1).toNat]!
 ·have hc2:=lcont_iff.1 hc;rw[aU hc];unfold LotW at hlw hx;repeat first|refine aa ?_|intro _|refine fD ?_
  refine GPW.efu (Ef.e8 (e:=((xs[((xs.length:Int) - 1).toNat]!.1,xs[((xs.length:Int) - 1).toNat]!.2.1,xs[((xs.length:Int) - 1).toNat]!.2.2+x.2.2):Lot)) rfl rfl (by rfl) rfl ac ae) ?_;rintro _ _ rfl
  have e:be xs x=xs.set ((xs.length:Int) - 1).toNat (xs[((xs.length:Int) - 1).toNat]!.1,xs[((xs.length:Int) - 1).toNat]!.2.1,xs[((xs.length:Int) - 1).toNat]!.2.2+x.2.2):=by
   unfold be;rw[hii] at hc ⊢;rw[if_neg h0,if_pos ⟨h1,hc⟩]
  rw[e];repeat first|refine aa ?_|intro _|refine fD ?_
  exact KX.d7 ai ag ⟨ad,cap,by rw[bg];rfl,rfl⟩
 ·rw[aF hc]
  have e:be xs x=xs++[x]:=by
   unfold be;rw[hii] at hc;rw[if_neg h0,if_neg (fun h=>hc h.2)]
  rw[e];repeat first|refine aa ?_|intro _|refine fD ?_
  refine GO.ef (Ef.d8 (enc:=an) (e:=x) rfl rfl rfl rfl rfl (by rfl) (cx _) ac ac) ae ?_;rintro _ _⟨ad2,cap2,rfl,rfl⟩;repeat first|refine aa ?_|intro _|refine fD ?_
  exact KX.d7 ai ag ⟨ad2,cap2,rfl,rfl⟩
def pc1(x:Lot)(c:Int):Lot:=(x.1,x.2.1,c)
def pc2(x:Lot)(c:Int):Lot:=(x.1,x.2.1+c,x.2.2 - c)
def pcF(l:LL)(cs:Nat→Int)(k:Nat):Lot:=pc1 l[k]! (cs k)
def pcR(l:LL)(cs:Nat→Int)(k:Nat):Lot:=pc2 l[k]! (cs k)
def pcV(l:LL)(cs:Nat→Int)(k:Nat):LV:=if k % 2=0 then[.agg (an (pcF l cs (k / 2))).toArray,.bool true] else[.agg (an (pcR l cs (k / 2))).toArray,.bool false]
def pcVs(l:LL)(cs:Nat→Int):List (LV):=(List.range (2*l.length)).map (pcV l cs)
theorem nK(l:LL)(cs:Nat→Int):(pcVs l cs).length=2*l.length:=by simp[pcVs]
theorem vZ{l:LL}{cs:Nat→Int}{k:Nat}(h:k<(pcVs l cs).length):(pcVs l cs)[k]=pcV l cs k:=by simp[pcVs]
def sC(g:FuncId)(cap:LV)(n:Nat)(cs:Nat→Int)(C:Nat→HP):Prop:=∀k,k<n→∀L:LH,Tri ah g (([]++[Value.int .i64 (k:Int)]++cap:LV)).toArray (C k::L) (fun v L'=>v=ab (cs k)∧L' = C (k+1)::L)
abbrev jz:Nat:=72
abbrev tCnt:Nat:=68
theorem yU(bx bf g:Nat)(cap:LV)(ad:OA)(c:Nat)(l:LL)(cs:Nat→Int)(C:Nat→HP)(hm:l.length≤1000000)(hw:∀x∈l,LotW x)(hc:∀k,k<l.length→0≤cs k∧cs k≤l[k]!.2.2)(hC:sC g cap l.length cs C) :
  Fm ah 336 [au bx,au bf] (pcVs l cs) [obj bx jz [.slice ad l.length c],obj bf tCnt [.func (.func g) #[] cap.toArray],C 0,isl an 3 ad l] []:=by
 intro i J Jx hy;rw[nK]
 have hy' : ∀k (hk:k<2*l.length),YTri ah i (pcV l cs k) [J k] (fun v L'=>(v=.bool true∧L' = [J (k+1)])∨(v=.bool false∧L' = [Jx k])):=by
  intro k hk;have h:=hy k (by rw[nK];exact hk);rw[vZ] at h;exact h
 clear hy;refine Tri.body (args:=[.func (.yield i) #[] #[],au bx,au bf]) 43 EZ Tryz.func336 rfl rfl rfl (by simp) ?_;repeat first|refine aa ?_|intro
 refine G.loop (α:=Nat) (fun k=>k≤l.length) (fun k=>[(0,.func (.yield i) #[] #[]),(1,au bx),(2,au bf),(7,.slice ad l.length c),(8,ab l.length),(9,ab (k:Int))]) (fun k=>[J (2*k),obj bx jz [.slice ad l.length c],obj bf tCnt [.func (.func g) #[] cap.toArray],C k,isl an 3 ad l]) (fun k=>l.length - k) 0 (ao _) aj (Ent.refl _) ?_;intro k hk;by_cases hlt:k<l.length
 case neg =>
  have hkn:k=l.length:=ac;repeat first|refine aa ?_|intro
  refine KX.e8 ai (Ent.d7 (Ent.nil _)) (.inl ?_);rw[hkn]
 have hii:(k:Int).toNat=k:=ac;have hlw:=hw _ (aI hlt);have hck:=hc k hlt;have hy1:=hy' (2*k) ac;have hy2:=hy' (2*k+1) ac;rw[show pcV l cs (2*k)=[.agg (an (pcF l cs k)).toArray,.bool true] by unfold pcV;rw[if_pos ac,show 2*k / 2=k by omega]] at hy1;rw[show pcV l cs (2*k+1)=[.agg (an (pcR l cs k)).toArray,.bool false] by unfold pcV;rw[if_neg ac,show(2*k+1) / 2=k by omega]] at hy2;unfold LotW at hlw;repeat first|refine aa ?_|intro
 rw[hii];refine GO.ent (Ent.at (A:=C k) (Ent.refl _)) ?_;refine GO.ef (Ef.d9 rfl rfl (hC k hlt _)) ae ?_;rintro _ _⟨rfl,rfl⟩;repeat first|refine aa ?_|intro
 refine GO.ent (Ent.at (A:=J (2*k)) (Ent.refl _)) ?_;((with_reducible apply GO.d7);refine GO.efR (EfR.yield (hy1) rfl rfl (by repeat (first|exact Ent.refl _|apply Ent.take))) ae ?_);rintro _ _⟨_,(⟨rfl,rfl⟩|⟨rfl,rfl⟩),hL⟩
 ·simp only[ax,aq] at hL;subst hL;repeat first|refine aa ?_|intro _
  ((with_reducible apply GO.d7);refine GO.efR (EfR.yield (hy2) rfl rfl (by repeat (first|exact Ent.refl _|apply Ent.take))) ae ?_);rintro _ _⟨_,(⟨rfl,rfl⟩|⟨rfl,rfl⟩),hL⟩
  ·simp only[ax,aq] at hL;subst hL;repeat first|refine aa ?_|intro
   refine⟨k+1,ac,ac,?_,?_⟩
   ·rw[show(((k+1:Nat)):Int)=(k:Int)+1 by omega];exact aj
   ·rw[show 2*(k+1)=2*k+1+1 by omega];exact ag
  ·simp only[ax,aq] at hL;subst hL;repeat first|refine aa ?_|intro
   exact KX.d7 ai (Ent.d7 (Ent.nil _)) (.inr ⟨2*k+1,rfl⟩)
 ·simp only[ax,aq] at hL;subst hL;repeat first|refine aa ?_|intro
  exact KX.d7 ai (Ent.d7 (Ent.nil _)) (.inr ⟨2*k,rfl⟩)
def stkA(b:Nat)(xs:LL)(x:OA×Nat):LH:=[obj b jz [.slice x.1 xs.length x.2],osl an 3 tLot x.1 x.2 xs]
def stkO(b:Nat)(xs:LL):HP:=hex fun x=>cL (stkA b xs x)
def divF(l:LL)(cs:Nat→Int)(m:Nat):LL:=((List.range m).map (pcF l cs)).foldl be []
def divR(l:LL)(cs:Nat→Int)(m:Nat):LL:=((List.range m).map (pcR l cs)).foldl be []
theorem pq(l:LL)(cs:Nat→Int)(m:Nat):divF l cs (m+1)=be (divF l cs m) (pcF l cs m):=by simp[divF,eu]
theorem mJ(l:LL)(cs:Nat→Int)(m:Nat):divR l cs (m+1)=be (divR l cs m) (pcR l cs m):=by simp[divR,eu]
theorem jF(l:LL)(cs:Nat→Int)(m:Nat):(divF l cs m).length≤m∧(divR l cs m).length≤m:=by
 have h1:=kE ((List.range m).map (pcF l cs)) [];have h2:=kE ((List.range m).map (pcR l cs)) [];simp at h1 h2;exact⟨h1,h2⟩
theorem pc_w{l:LL}{cs:Nat→Int}{k:Nat}(hk:k<l.length)(hw:∀x∈l,LotW x)(hc:0≤cs k∧cs k≤l[k]!.2.2):LotW (pcF l cs k)∧LotW (pcR l cs k):=by
 have:=hw _ (aI hk)
 unfold LotW at *;simp only[pcF,pcR,pc1,pc2];omega
theorem uX{l:LL}{cs:Nat→Int}(hw:∀x∈l,LotW x)(hc:∀k,k<l.length→0≤cs k∧cs k≤l[k]!.2.2)(m:Nat)(hm:m≤l.length):(∀x∈divF l cs m,LotW x)∧∀x∈divR l cs m,LotW x:=by
 constructor
 ·refine ow (by simp) ?_;intro x hx;obtain⟨k,hk,rfl⟩:=List.mem_map.1 hx;have hk':=List.mem_range.1 hk;exact(pc_w ac hw (hc k ac)).1
 ·refine ow (by simp) ?_;intro x hx;obtain⟨k,hk,rfl⟩:=List.mem_map.1 hx;have hk':=List.mem_range.1 hk;exact(pc_w ac hw (hc k ac)).2
abbrev AQ:List Stp:=[.ev 0,.ev 1,.ef 2,.ef 3]
theorem gD{φ ψ:Prop}(k:ψ)(h:Hid ψ→φ:=by intro k;first|((with_reducible apply GO.d7);refine GO.e7 uT Tryz.func325 rfl rfl rfl rfl (by simp) ae (Hid.out k))|((with_reducible apply GPW.d7);refine GPW.e7 uT Tryz.func325 rfl rfl rfl rfl (by simp) ae (Hid.out k))|((with_reducible apply GO.d7);refine GO.d8 rfl uT Tryz.func325 rfl rfl rfl rfl (by simp) ae (Hid.out k))|((with_reducible apply GPW.d7);refine GPW.d8 rfl uT Tryz.func325 rfl rfl rfl rfl (by simp) ae (Hid.out k))|((with_reducible apply KX.f7);first|refine KX.in0 (.inl rfl) (Hid.out k)|refine KX.in0 (.inr rfl) (Hid.out k)|refine KX.in1 (.inl rfl) rfl (Hid.out k)|refine KX.in2 (.inl rfl) rfl rfl (Hid.out k)|refine KX.in3 (.inl rfl) rfl rfl rfl (Hid.out k)|refine KX.inC (.inl rfl) rfl (by rfl) (Hid.out k)|refine KX.e9 (.inl rfl) rfl (by rfl) rfl (Hid.out k))):φ:=h ⟨k⟩
theorem gC{φ ψ:Prop}(k:ψ)(h:Hid ψ→φ:=by intro k;(with_reducible apply G.d8);first|refine G.d7 (N:=22) (id:=7) AQ mixed ap (Hid.out k)):φ:=h ⟨k⟩
theorem mX(g:Nat)(cap:LV)(ad:OA)(c:Nat)(l:LL)(cs:Nat→Int)(C:Nat→HP)(hm:l.length≤1000000)(hw:∀x∈l,LotW x)(hc:∀k,k<l.length→0≤cs k∧cs k≤l[k]!.2.2)(hC:sC g cap l.length cs C) :
  Tri ah 302 #[.slice ad l.length c,.func (.func g) #[] cap.toArray] [C 0,isl an 3 ad l] (fun v L'=>∃ad1 c1 ad2 c2,v=.tuple #[.slice ad1 (divF l cs l.length).length c1,.slice ad2 (divR l cs l.length).length c2]∧L' = [osl an 3 tLot ad1 c1 (divF l cs l.length),osl an 3 tLot ad2 c2 (divR l cs l.length)]):=by
 refine Tri.body (args:=[.slice ad l.length c,.func (.func g) #[] cap.toArray]) 22 Hk Tryz.func302 rfl rfl rfl (by simp) ?_;repeat first|refine aa ?_|intro _|refine gC ?_|refine gD ?_
 rename_i b4 b5 bx bf;refine G.g7 (yU bx bf g cap ad c l cs C hm hw hc hC) rfl EZ ae ?_ (fun k=>[stkO b4 (divF l cs ((k+1) / 2)),stkO b5 (divR l cs (k / 2))]) ?_ ?_ ?_
 ·intro vs hvs;obtain⟨k,_,rfl⟩:=List.mem_map.1 hvs;unfold pcV;split<;>rfl
 ·simp only[ax,aq];rw[show divF l cs ((0+1) / 2)=[] from rfl,show divR l cs (0 / 2)=[] from rfl];refine Ent.trans ?_ (Ent.l5 (none,0) (f:=stkA b4 []) (Ent.refl _));refine Ent.trans ?_ (Ent.append (Ent.refl (stkA b4 [] (none,0))) (Ent.l5 (none,0) (f:=stkA b5 []) (Ent.refl _)));simp only[stkA,cH,ax,aq];refine Ent.trans (Ent.d8 an 3 tLot) (Ent.trans (Ent.d8 an 3 tLot) ?_);exact ag
 ·intro k hk;have hk2:k<2*l.length:=by rw[nK] at hk;exact hk
  rw[vZ];obtain⟨m,hm2⟩:∃m,m=k / 2:=⟨_,rfl⟩;have hml:m<l.length:=ac;obtain⟨hw1,hw2⟩:=pc_w hml hw (hc m hml);have hdl:=jF l cs m;have hdl1:=jF l cs (m+1);have hdw:=uX hw hc m ac;unfold pcV;by_cases hev:k % 2=0
  ·rw[if_pos hev,←hm2,show(k+1) / 2=m by omega,show(k+1+1) / 2=m+1 by omega,pq];generalize divF l cs m=T at hdl hdw;generalize divR l cs m=R;generalize pcF l cs m=x at hw1;show G _ _ _ ((12,.bool true)::(11,.agg (an x).toArray)::_) _ _;refine G.e9 (f:=stkA b4 T) ?_;rintro⟨ad1,c1⟩;simp only[stkA,ax,aq];repeat first|refine aa ?_|intro _|refine gC ?_|refine gD ?_
   refine GO.ent (Ent.at (A:=osl an 3 tLot ad1 c1 T) (Ent.refl _)) ?_;refine GO.ef (Ef.d7 (oV ad1 c1 T x ac hdw.1 hw1) rfl) ae ?_;rintro _ _⟨ad2,c2,rfl,rfl⟩;repeat first|refine aa ?_|intro _|refine gC ?_|refine gD ?_
   refine KX.round ?_;refine Ent.trans ?_ (Ent.l5 (ad2,c2) (f:=stkA b4 (be T x)) (Ent.refl _));simp only[stkA,ax,aq];exact ag
  ·rw[if_neg hev,←hm2,show(k+1) / 2=m+1 by omega,show(k+1+1) / 2=m+1 by omega,mJ];generalize divF l cs (m+1)=T;generalize divR l cs m=R at hdl hdw;generalize pcR l cs m=x at hw2;show G _ _ _ ((12,.bool false)::(11,.agg (an x).toArray)::_) _ _;refine G.ent Ent.swap ?_;refine G.e9 (f:=stkA b5 R) ?_;rintro⟨ad1,c1⟩;simp only[stkA,ax,aq];repeat first|refine aa ?_|intro _|refine gC ?_|refine gD ?_
   refine GO.ent (Ent.at (A:=osl an 3 tLot ad1 c1 R) (Ent.refl _)) ?_;refine GO.ef (Ef.d7 (oV ad1 c1 R x ac hdw.2 hw2) rfl) ae ?_;rintro _ _⟨ad2,c2,rfl,rfl⟩;repeat first|refine aa ?_|intro _|refine gC ?_|refine gD ?_
   refine KX.round ?_;refine Ent.trans ?_ (Ent.swap (A:=stkO b5 (be R x)));refine Ent.trans ?_ (Ent.l5 (ad2,c2) (f:=stkA b5 (be R x)) (Ent.refl _));simp only[stkA,ax,aq];exact ag
 ·rw[nK,show(2*l.length+1) / 2=l.length by omega,show 2*l.length / 2=l.length by omega];generalize divF l cs l.length=T;generalize divR l cs l.length=R;simp only[ba];refine KX.d8 (KX.l7 ?_);refine G.e9 (f:=stkA b4 T) ?_;rintro⟨ad1,c1⟩;refine G.ent (L':=stkO b5 R::stkA b4 T (ad1,c1)) (Ent.perm (by simp only[stkA,ax,aq];exact(List.Perm.cons _ (List.Perm.swap _ _ _)).trans (List.Perm.swap _ _ _))) ?_;refine G.e9 (f:=stkA b5 R) ?_;rintro⟨ad2,c2⟩;simp only[stkA,ax,aq];repeat first|refine aa ?_|intro _|refine gC ?_|refine gD ?_
  refine KX.d7 (vs:=[.slice ad1 T.length c1,.slice ad2 R.length c2]) (ResOk.d7 rfl (ResOk.d7 rfl ResOk.nil)) ?_ ⟨ad1,c1,ad2,c2,rfl,rfl⟩;exact ag
def fuR(l:LL)(m:Int):Nat→Int
 | 0=>m
 | k+1=>fuR l m k - min (fuR l m k) l[k]!.2.2
def fuC(l:LL)(m:Int)(k:Nat):Int:=min (fuR l m k) l[k]!.2.2
theorem nq{l:LL}{m:Int}(h0:0≤m)(hw:∀x∈l,LotW x):∀k,k≤l.length→0≤fuR l m k∧fuR l m k≤m
 | 0,_=>⟨h0,bu _⟩
 | k+1,hk=>by
  have ih:=nq h0 hw k ac;have:=hw _ (aI (show k<l.length by omega))
  unfold LotW at this;simp only[fuR];omega
theorem nr{l:LL}{m:Int}(h0:0≤m)(hw:∀x∈l,LotW x)(k:Nat)(hk:k<l.length):0≤fuC l m k∧fuC l m k≤l[k]!.2.2:=by
 have h1:=nq h0 hw k ac;have:=hw _ (aI hk)
 unfold LotW at this;unfold fuC;omega
abbrev tInt:Nat:=3
def fuA(bn bl:Nat)(ad:OA)(c:Nat)(l:LL)(m:Int)(k:Nat):LH:=[obj bn tInt [ab (fuR l m k)],obj bl jz [.slice ad l.length c],isl an 3 ad l]
abbrev AP:List Stp:=[.ev 0,.ev 1,.ev 2,.ev 3,.ev 4,.ev 5,.ev 6,.ev 7]
theorem ua(bn bl:Nat)(ad:OA)(c:Nat)(l:LL)(m:Int)(hm:l.length≤1000000)(h0:0≤m)(h1:m≤1099511627776)(hw:∀x∈l,LotW x) :
  sC 320 [au bn,au bl] l.length (fuC l m) (fun k=>cL (fuA bn bl ad c l m k)):=by
 intro k hk L;have hii:(k:Int).toNat=k:=ac;have hb:=nq h0 hw k ac;have hcb:=nr h0 hw k hk;have hlw:=hw _ (aI hk);unfold LotW at hlw;unfold fuC at hcb;rw[←hii] at hlw hcb;rw[hii] at hcb;refine Tri.body (args:=[ab (k:Int),au bn,au bl]) 17 Hf Tryz.func320 rfl rfl rfl (by simp) ?_;refine G.ent Ent.openS ?_;simp only[fuA,ax,aq];repeat first|refine aa ?_|intro _|((with_reducible apply G.d8);first|refine G.d7 (N:=17) (id:=1) AP mixed ap ?_)
 rw[hii];exact KX.d7 ai (Ent.j0 (A:=[_,_,_]) (L:=L)) ⟨rfl,rfl⟩
theorem mR{L:LH}(ad:OA)(n c:Nat)(xs:LL)[Rds L ad Lot an 3 xs](hn:n=xs.length)(hb:xs.length≤4096)(hx:∀l∈xs,LotOk l) :
  Tri ah 262 #[.slice ad n c] L (fun v L'=>v=ab (lsum xs)∧L' = L):=by
 refine Tri.body (args:=[.slice ad n c]) 8 HG Tryz.func262 rfl rfl rfl (by simp) ?_;repeat first|refine aa ?_|intro
 refine GO.ef (Ef.d7 (jO ad n c xs hn hb hx) rfl) ae ?_;rintro _ L ⟨rfl,rfl⟩;repeat first|refine aa ?_|intro
 refine GO.ef (Ef.d7 (xh ad n c xs hn hb hx) rfl) ae ?_;rintro _ L ⟨rfl,rfl⟩;repeat first|refine aa ?_|intro
 exact KX.d7 ai (Ent.refl _) ⟨rfl,rfl⟩
theorem hU{φ ψ:Prop}(k:ψ)(h:Hid ψ→φ:=by intro k;first|((with_reducible apply GO.d7);refine GO.e7 jU Tryz.func299 rfl rfl rfl rfl (by simp) ae (Hid.out k))|((with_reducible apply GPW.d7);refine GPW.e7 jU Tryz.func299 rfl rfl rfl rfl (by simp) ae (Hid.out k))|((with_reducible apply GO.d7);refine GO.d8 rfl jU Tryz.func299 rfl rfl rfl rfl (by simp) ae (Hid.out k))|((with_reducible apply GPW.d7);refine GPW.d8 rfl jU Tryz.func299 rfl rfl rfl rfl (by simp) ae (Hid.out k))|((with_reducible apply KX.f7);first|refine KX.in0 (.inl rfl) (Hid.out k)|refine KX.in0 (.inr rfl) (Hid.out k)|refine KX.in1 (.inl rfl) rfl (Hid.out k)|refine KX.in2 (.inl rfl) rfl rfl (Hid.out k)|refine KX.in3 (.inl rfl) rfl rfl rfl (Hid.out k)|refine KX.inC (.inl rfl) rfl (by rfl) (Hid.out k)|refine KX.e9 (.inl rfl) rfl (by rfl) rfl (Hid.out k))):φ:=h ⟨k⟩
theorem Aj{L:LH}(ad:OA)(c:Nat)(xs:LL)(n:Int)(mixed:Bool)(hmx:mixed=false)(hb:xs.length≤4096)(hx:∀l∈xs,LotOk l)(hn0:0≤n)(hn1:n≤1099511627776) :
  Tri ah 284 #[.slice ad xs.length c,ab n,.bool mixed] (isl an 3 ad xs::L) (fun v L' =>
   (lsum xs<n∧v=.tuple #[.slice none 0 0,.slice none 0 0,ab 10]∧L' = isl an 3 ad xs::L) ∨
   (n≤lsum xs∧∃ad1 c1 ad2 c2,v=.tuple #[.slice ad1 (divF xs (fuC xs n) xs.length).length c1,.slice ad2 (divR xs (fuC xs n) xs.length).length c2,ab 0]∧L' = osl an 3 tLot ad1 c1 (divF xs (fuC xs n) xs.length)::osl an 3 tLot ad2 c2 (divR xs (fuC xs n) xs.length)::isl an 3 ad xs::L)):=by
 subst hmx;have hw:∀x∈xs,LotW x:=fun x h=>(hx x h).w;refine Tri.body (args:=[.slice ad xs.length c,ab n,.bool false]) 74 BJ Tryz.func284 rfl rfl rfl (by simp) ?_;repeat first|refine aa ?_|intro _|refine hU ?_
 refine GO.ef (Ef.d7 (jO ad xs.length c xs rfl hb hx) rfl) ae ?_;rintro _ _⟨rfl,rfl⟩;repeat first|refine aa ?_|intro _|refine hU ?_
 refine GO.ef (Ef.d7 (mR ad xs.length c xs rfl hb hx) rfl) ae ?_;rintro _ _⟨rfl,rfl⟩;by_cases hs:lsum xs<n
 ·repeat first|refine aa ?_|intro _|refine hU ?_
  exact KX.d7 ai (Ent.refl _) (.inl ⟨hs,rfl,rfl⟩)
 repeat first|refine aa ?_|intro _|refine hU ?_
 rename_i bl bn;refine GO.ent (L':=cL (fuA bn bl ad c xs n 0)::isl an 3 ad xs::isl an 3 ad xs::L) ?_ ?_
 ·refine Ent.trans ?_ Ent.j0;simp only[fuA,fuR,ax,aq];refine(Ent.at (A:=isl an 3 ad xs) (Ent.dup (iw _ _ _ _))).trans ?_;refine(Ent.dup (iw _ _ _ _)).trans ?_;exact ag
 (first|refine GO.ef (Ef.call (mX _ _ ad c xs (fuC xs n) (fun k=>cL (fuA bn bl ad c xs n k)) ac hw (nr hn0 hw) (ua bn bl ad c xs n ac hn0 hn1 hw)) rfl (by repeat (first|exact Ent.refl _|apply Ent.take))) ae ?_);rintro _ _⟨_,⟨ad1,c1,ad2,c2,rfl,rfl⟩,hL⟩;simp only[ax,aq] at hL;subst hL;repeat first|refine aa ?_|intro _|refine hU ?_
 exact KX.d7 ai (Ent.refl _) (.inr ⟨ac,ad1,c1,ad2,c2,rfl,rfl⟩)
structure MvM where
 frm:Int
 to:Int
 item:Int
 n:Int
 parts:LL
 deriving Inhabited,DecidableEq
structure MvV where
 m:MvM
 pad:OA
 pcap:Nat
 deriving Inhabited
def aM(m:MvV):LV:=[ab m.m.frm,ab m.m.to,ab m.m.item,ab m.m.n,.slice m.pad m.m.parts.length m.pcap]
theorem iD(t:MvV):∀u∈aM t,u.oneCell' = true:=by simp[aM,Value.oneCell']
instance:EncC aM:=⟨iD⟩
abbrev mvP(m:MvV):HP:=isl an 3 m.pad m.m.parts
theorem iA(m:MvV):PersM (mvP m):=bT _ _ _ _
abbrev tMv:Nat:=74
def mv0:MvV:=⟨⟨0,0,0,0,[]⟩,none,0⟩
theorem pt{L:LH}(m:MvV)(hl:m.m.parts.length≤1000000) :
  Tri ah 126 #[.agg (aM m).toArray] (mvP m::L) (fun v L'=>∃m',v=.agg (aM m').toArray∧m'.m=m.m∧L' = mvP m'::mvP m::L):=by
 obtain⟨⟨frm,to,item,n,parts⟩,pad,pcap⟩:=m;dsimp only at hl;refine Tri.body (args:=[.agg (aM ⟨⟨frm,to,item,n,parts⟩,pad,pcap⟩).toArray]) 8 JS Tryz.func126 rfl rfl rfl (by simp) ?_;repeat first|refine aa ?_|intro
 refine GO.ef (Ef.d7 (ly pad parts.length pcap parts rfl ac) rfl) ae ?_;rintro _ _⟨ad',cap',rfl,rfl⟩;repeat first|refine aa ?_|intro
 refine KX.d7 (by exact ResOk.cell rfl (by rfl) (ResOk.nil)) ?_ ⟨⟨⟨frm,to,item,n,parts⟩,ad',cap'⟩,rfl,rfl,rfl⟩;refine(Ent.frz ad').trans ?_;exact ag
theorem dP{α:Type}[Inhabited α]{l:List α}{i:Nat}{x:α}(h:i<l.length):(l.set i x).take (i+1)=l.take i++[x]:=by
 rw[aC (by simpa using h),List.take_set_of_le (aB _)];simp
theorem wM{L:LH}(ad:OA)(c:Nat)(ms:List MvV)(hl:ms.length≤64)(hp:∀m∈ms,m.m.parts.length≤1000000) :
  Tri ah 125 #[.slice ad ms.length c,.func (.func 126) #[] #[]] (isl aM 5 ad ms::allP mvP ms::L) (fun v L'=>∃ad' c' ms',v=.slice ad' ms'.length c'∧ms'.map (·.m)=ms.map (·.m)∧L' = isl aM 5 ad' ms'::allP mvP ms'::isl aM 5 ad ms::allP mvP ms::L):=by
 refine Tri.body (args:=[.slice ad ms.length c,.func (.func 126) #[] #[]]) 29 Fi Tryz.func125 rfl rfl rfl (by simp) ?_;by_cases h0:ms.length=0
 ·have e:ms=[]:=aW h0;subst e;repeat first|refine aa ?_|intro
  exact KX.d7 ai ((Ent.e7 mvP).trans (Ent.e9 aM 5 none)) ⟨none,0,[],rfl,rfl,rfl⟩
 repeat first|refine aa ?_|intro
 refine GO.ef (Ef.g7 aM mv0 rfl rfl rfl ac ac ac ac) ae ?_;rintro _ _⟨bs,rfl,rfl⟩;rw[show(ms.length:Int).toNat=ms.length by omega];repeat first|refine aa ?_|intro
 refine G.loop (α:=Nat×List MvV) (fun z=>z.1≤ms.length∧z.2.length=ms.length∧(z.2.take z.1).map (·.m)=(ms.take z.1).map (·.m)) (fun z=>[(1,.func (.func 126) #[] #[]),(5,.slice (some ⟨bs,0,none⟩) ms.length ms.length),(14,.slice ad ms.length c),(15,ab (ms.length:Int)),(16,ab (z.1:Int))])
  (fun z=>osl aM 5 tMv (some ⟨bs,0,none⟩) ms.length z.2::allP mvP (z.2.take z.1)::isl aM 5 ad ms::allP mvP ms::L) (fun z=>ms.length - z.1) (0,List.replicate ms.length mv0) ⟨ao _,by simp,by simp⟩ aj ?_ ?_
 ·dsimp only;rw[ce];refine(Ent.e7 mvP).trans ?_;exact ag
 rintro⟨i,zs⟩ ⟨hi,hzl,hze⟩;dsimp only at hi hzl hze ⊢;by_cases hlt:i<ms.length
 case neg =>
  have hie:i=ms.length:=ac;subst hie;rw[aD ac,aD ac] at hze;rw[aD (show zs.length≤ms.length by omega)];repeat first|refine aa ?_|intro
  refine KX.d7 ai (Ent.freezeSl) ⟨some ⟨bs,0,none⟩,ms.length,zs,by rw[hzl];rfl,hze,rfl⟩
 have hii:(i:Int).toNat=i:=ac;have hmm:ms[i]!∈ms:=aI hlt;repeat first|refine aa ?_|intro
 rw[hii];refine GO.ent (Ent.at (A:=allP mvP ms) (Ent.d9 (x:=ms[i]!) hmm)) ?_;refine GO.ef (Ef.d9 rfl rfl (pt ms[i]! (hp _ hmm))) ae ?_;rintro _ _⟨m',rfl,hm',rfl⟩;repeat first|refine aa ?_|intro
 refine GO.efu (Ef.e9 (e:=m') rfl rfl (by rfl) (by rfl) (iD _) ac) ?_;rintro _ _ rfl;rw[hii];repeat first|refine aa ?_|intro
 refine⟨(i+1,zs.set i m'),⟨by dsimp only;omega,by dsimp only;simp;omega,?_⟩,by dsimp only;omega,?_,?_⟩
 ·dsimp only;rw[dP ac,aC hlt,aZ,aZ,hze,←getElem!_of hlt];simp[hm']
 ·dsimp only;rw[aP i];exact aj
 ·dsimp only;rw[dP ac];refine Ent.d7 ?_;refine Ent.trans (B:=allP mvP (zs.take i)::mvP m'::isl aM 5 ad ms::allP mvP ms::L) ag ?_;exact(Ent.d7 (Ent.g7 iA)).trans (Ent.g8 iA)
structure StM where
 id:Int
 kind:Int
 actor:Int
 tick:Int
 rule:Int
 times:Int
 moves:List MvM
 deriving Inhabited
structure StV where
 id:Int
 kind:Int
 actor:Int
 tick:Int
 rule:Int
 times:Int
 moves:List MvV
 mad:OA
 mcap:Nat
 deriving Inhabited
def StV.m(s:StV):StM:=⟨s.id,s.kind,s.actor,s.tick,s.rule,s.times,s.moves.map (·.m)⟩
def aJ(s:StV):LV:=[ab s.id,ab s.kind,ab s.actor,ab s.tick,ab s.rule,ab s.times,.slice s.mad s.moves.length s.mcap]
theorem jd(t:StV):∀u∈aJ t,u.oneCell' = true:=by simp[aJ,Value.oneCell']
instance:EncC aJ:=⟨jd⟩
abbrev stM(s:StV):HP:=isl aM 5 s.mad s.moves
abbrev stP(s:StV):HP:=allP mvP s.moves
theorem nz(s:StV):PersM (stM s):=bT _ _ _ _
theorem wS{L:LH}(s:StV)(hl:s.moves.length≤64)(hp:∀m∈s.moves,m.m.parts.length≤1000000) :
  Tri ah 68 #[.agg (aJ s).toArray] (stM s::stP s::L) (fun v L'=>∃s',v=.agg (aJ s').toArray∧s'.m=s.m∧L' = stM s'::stP s'::stM s::stP s::L):=by
 obtain⟨i0,i1,i2,i3,i4,i5,ms,mad,mcap⟩:=s;dsimp only at hl hp;refine Tri.body (args:=[.agg (aJ ⟨i0,i1,i2,i3,i4,i5,ms,mad,mcap⟩).toArray]) 8 en68 Tryz.func68 rfl rfl rfl (by simp) ?_;repeat first|refine aa ?_|intro
 refine GO.ent (Ent.at (A:=isl aM 5 mad ms) (Ent.d7 (Ent.at (A:=allP mvP ms) (Ent.refl _)))) ?_;refine GO.ef (Ef.d7 (wM mad mcap ms hl hp) rfl) ae ?_;rintro _ _⟨ad',c',ms',rfl,hms,rfl⟩;repeat first|refine aa ?_|intro
 refine KX.d7 (by exact ResOk.cell rfl (by rfl) (ResOk.nil)) ?_ ⟨⟨i0,i1,i2,i3,i4,i5,ms',ad',c'⟩,rfl,by simp only[StV.m,hms],rfl⟩;exact ag
