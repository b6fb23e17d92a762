/- Lemmas. -/
import Derived.Test.YtommnllbflbdmaaGreatDoorAaj
set_option linter.all false
set_option maxHeartbeats 1000000
namespace Go.Proofs.YtommnllbflbdmaaGreatDoor
section
open Go.V
attribute [local irreducible] G GO GP GPW GPK Ev Ef EfR Ent CB GB Enters
def LotW(l:Lot):Prop:=0≤l.1∧0≤l.2.1∧0≤l.2.2∧l.2.1+l.2.2≤1099511627776
def LotOk.w{l:Lot}(h:LotOk l):LotW l:=by unfold LotOk at h;unfold LotW;omega
def kD(x b:Lot):Prop:=[x.1,x.2.1,0]=[b.1,b.2.1+b.2.2,0]
instance (x b:Lot):Decidable (kD x b):=by unfold kD;infer_instance
def lcont_iff{x b:Lot}:kD x b↔x.1=b.1∧x.2.1=b.2.1+b.2.2:=by simp[kD]
def aY(l:LL)(x:Lot):LL :=
 if x.2.2=0 then l else if l.length≠0∧kD x l[l.length - 1]! then l.set (l.length - 1) (l[l.length - 1]!.1,l[l.length - 1]!.2.1,l[l.length - 1]!.2.2+x.2.2) else l++[x]
def kY(l:LL)(x:Lot):(aY l x).length≤l.length+1:=by
 unfold aY;split
 ·omega
 ·split<;>simp
def qX{l:LL}{x:Lot}(h:∀y∈l,LotW y)(hx:LotW x):∀y∈aY l x,LotW y:=by
 unfold aY;split
 ·exact h
 ·split
  ·rename_i hc;obtain⟨a1,a0⟩:=hc;rw[lcont_iff] at a0;intro y hy;rcases ee hy with hy|rfl
   ·exact h y hy
   ·have:=h _ (aI (ab:l.length - 1<l.length))
    unfold LotW at this hx ⊢;dsimp only;omega
  ·intro y hy;rcases List.mem_append.1 hy with hy|hy
   ·exact h y hy
   ·rw[List.mem_singleton] at hy;subst hy;exact hx
def kE{xs:LL}:∀{l:LL},(∀y∈l,LotW y)→(∀y∈xs,LotW y)→∀y∈xs.foldl aY l,LotW y:=by
 induction xs with
 | nil=>intro l h _;exact h
 | cons x xs ih =>
  intro l h hx;exact ih (qX h (hx x (aq ..))) (fun y hy=>hx y (au _ hy))
def jd(xs:LL):∀l:LL,(xs.foldl aY l).length≤l.length+xs.length:=by
 induction xs with
 | nil=>intro l;simp
 | cons x xs ih =>
  intro l;have h1:=ih (aY l x);have h2:=kY l x;simp only[fU,bh];omega
def DN{L:LH}(x b:Lot)(hb:LotW b):Tri ai 289 #[aN (aj x),aN (aj b)] L (fun v L'=>v=.bool (dB (kD x b))∧L' = L):=by
 unfold LotW at hb;refine Tri.bd ?_;refine Jq ?_;intros;exact KX.en ⟨rfl,rfl⟩
abbrev CV:=ay5 [.ev 8,.ef 9,.ev 10]
abbrev CU:=ay6 [.ev 10,.ef 11]
def Jr{φ ψ:Prop}(k:ψ)(h:Hid ψ→φ:=by intro k;(repeat (first|refine aa ?_|intro zzz|refine G.dr 39 4 CV ?_|refine G.dr 39 5 CU ?_));(repeat revert zzz);exact Hid.out k):φ:=h ⟨k⟩
def qr{L:LH}(ad:OA)(cap:Nat)(xs:LL)(x:Lot)(hl:xs.length≤100000000)(a5:∀y∈xs,LotW y)(hx:LotW x) :
  Tri ai 268 #[ah ad xs.length cap,aN (aj x)] (osl aj 3 tLot ad cap xs::L) (fun v L'=>∃a4 a1,v=ah a4 (aY xs x).length a1∧L' = osl aj 3 tLot a4 a1 (aY xs x)::L):=by
 refine Tri.bd ?_;by_cases h0:x.2.2=0
 ·have e:aY xs x=xs:=by unfold aY;rw[if_pos h0]
  rw[e];refine Jr ?_;intros;exact KX.en ⟨ad,cap,rfl,rfl⟩
 by_cases h1:xs.length=0
 ·have e:aY xs x=xs++[x]:=by unfold aY;rw[if_neg h0,if_neg (fun h=>h.1 h1)]
  rw[e];refine Jr ?_;intros;refine GO.ef (Ef.d7 (enc:=aj) (e:=x) rfl rfl rfl rfl rfl aK (co _) ab ab) ag ?_;rintro _ _⟨ad2,a0,rfl,rfl⟩;refine Jr ?_;intros;exact KX.en ⟨ad2,a0,rfl,rfl⟩
 have a3:((xs.length:Int) - 1).toNat=xs.length - 1:=ab;have a2:=a5 _ (aI (ab:xs.length - 1<xs.length));rw[←a3] at a2;refine Jr ?_;intros;refine GPW.cr (DN x xs[((xs.length:Int) - 1).toNat]! a2) ?_;by_cases hc:kD x xs[((xs.length:Int) - 1).toNat]!
 ·have a6:=lcont_iff.1 hc;rw[aS hc];unfold LotW at a2 hx;refine Jr ?_;intros;refine GPW.efu (Ef.g9 (e:=((xs[((xs.length:Int) - 1).toNat]!.1,xs[((xs.length:Int) - 1).toNat]!.2.1,xs[((xs.length:Int) - 1).toNat]!.2.2+x.2.2):Lot)) rfl rfl aK rfl ab ag) ?_;rintro _ _ rfl
  have e:aY xs x=xs.set ((xs.length:Int) - 1).toNat (xs[((xs.length:Int) - 1).toNat]!.1,xs[((xs.length:Int) - 1).toNat]!.2.1,xs[((xs.length:Int) - 1).toNat]!.2.2+x.2.2):=by
   unfold aY;rw[a3] at hc ⊢;rw[if_neg h0,if_pos ⟨h1,hc⟩]
  rw[e];refine Jr ?_;intros;exact KX.d7 al ae ⟨ad,cap,by rw[cu];rfl,rfl⟩
 ·rw[aG hc]
  have e:aY xs x=xs++[x]:=by
   unfold aY;rw[a3] at hc;rw[if_neg h0,if_neg (fun h=>hc h.2)]
  rw[e];refine Jr ?_;intros;refine GO.ef (Ef.d7 (enc:=aj) (e:=x) rfl rfl rfl rfl rfl aK (co _) ab ab) ag ?_;rintro _ _⟨ad2,a0,rfl,rfl⟩;refine Jr ?_;intros;exact KX.en ⟨ad2,a0,rfl,rfl⟩
def pc1(x:Lot)(c:Int):Lot:=(x.1,x.2.1,c)
def pc2(x:Lot)(c:Int):Lot:=(x.1,x.2.1+c,x.2.2 - c)
def pcF(l:LL)(cs:Nat→Int)(k:Nat):Lot:=pc1 l[k]! (cs k)
def pcR(l:LL)(cs:Nat→Int)(k:Nat):Lot:=pc2 l[k]! (cs k)
def pcV(l:LL)(cs:Nat→Int)(k:Nat):LV:=if k % 2=0 then[aN (aj (pcF l cs (k / 2))),.bool true] else[aN (aj (pcR l cs (k / 2))),.bool false]
def pcVs(l:LL)(cs:Nat→Int):List (LV):=(List.range (2*l.length)).map (pcV l cs)
def oQ(l:LL)(cs:Nat→Int):(pcVs l cs).length=2*l.length:=by simp[pcVs]
def xG{l:LL}{cs:Nat→Int}{k:Nat}(h:k<(pcVs l cs).length):(pcVs l cs)[k]=pcV l cs k:=by simp[pcVs]
def ud(g:FuncId)(cap:LV)(n:Nat)(cs:Nat→Int)(C:Nat→HP):Prop:=∀k,k<n→∀L:LH,Tri ai g (([]++[Value.int .i64 (k:Int)]++cap:LV)).toArray (C k::L) (fun v L'=>v=ac (cs k)∧L' = C (k+1)::L)
abbrev fL:Nat:=72
abbrev tCnt:Nat:=68
def AU(bx bf g:Nat)(cap:LV)(ad:OA)(c:Nat)(l:LL)(cs:Nat→Int)(C:Nat→HP)(hm:l.length≤1000000)(hw:∀x∈l,LotW x)(hc:∀k,k<l.length→0≤cs k∧cs k≤l[k]!.2.2)(hC:ud g cap l.length cs C) :
  Ez ai 336 [ax bx,ax bf] (pcVs l cs) [obj bx fL [ah ad l.length c],obj bf tCnt [.func (.func g) #[] cap.toArray],C 0,isl aj 3 ad l] []:=by
 intro i J Jx hy;rw[oQ]
 have a3 : ∀k (hk:k<2*l.length),YTri ai i (pcV l cs k) [J k] (fun v L'=>(v=.bool true∧L' = [J (k+1)])∨(v=.bool false∧L' = [Jx k])):=by
  intro k hk;have h:=hy k (by rw[oQ];exact hk);rw[xG] at h;exact h
 clear hy;refine Tri.bd (args:=[.func (.yield i) #[] #[],ax bx,ax bf]) ?_;refine Jq ?_;intros;refine G.loop (α:=Nat) (fun k=>k≤l.length) (fun k=>[(0,.func (.yield i) #[] #[]),(1,ax bx),(2,ax bf),(7,ah ad l.length c),(8,ac l.length),(9,ac (k:Int))]) (fun k=>[J (2*k),obj bx fL [ah ad l.length c],obj bf tCnt [.func (.func g) #[] cap.toArray],C k,isl aj 3 ad l]) (fun k=>l.length - k) 0 (aw _) av (Ent.refl _) ?_;intro k hk;by_cases a0:k<l.length
 case neg =>
  have a4:k=l.length:=ab;refine Jq ?_;intros;refine KX.e7 al (Ent.d7 (Ent.nil _)) (.inl ?_);rw[a4]
 have a6:(k:Int).toNat=k:=ab;have a5:=hw _ (aI a0);have a7:=hc k a0;have a2:=a3 (2*k) ab;have a1:=a3 (2*k+1) ab;rw[show pcV l cs (2*k)=[aN (aj (pcF l cs k)),.bool true] by unfold pcV;rw[if_pos ab,show 2*k / 2=k by omega]] at a2;rw[show pcV l cs (2*k+1)=[aN (aj (pcR l cs k)),.bool false] by unfold pcV;rw[if_neg ab,show(2*k+1) / 2=k by omega]] at a1;unfold LotW at a5;refine Jq ?_;intros;rw[a6];refine GO.ent (Ent.at (A:=C k) (Ent.refl _)) ?_;refine GO.ef (Ef.d8 rfl rfl (hC k a0 _)) ag ?_;rintro _ _⟨rfl,rfl⟩;refine Jq ?_;intros;refine GO.ent (Ent.at (A:=J (2*k)) (Ent.refl _)) ?_;((with_reducible apply GO.d7);refine GO.efR (EfR.yield (a2) rfl rfl cJ) ag ?_);rintro _ _⟨_,(⟨rfl,rfl⟩|⟨rfl,rfl⟩),hL⟩
 ·simp only[ao,an] at hL;subst hL;refine Jq ?_;intros;((with_reducible apply GO.d7);refine GO.efR (EfR.yield (a1) rfl rfl cJ) ag ?_);rintro _ _⟨_,(⟨rfl,rfl⟩|⟨rfl,rfl⟩),hL⟩
  ·simp only[ao,an] at hL;subst hL;refine Jq ?_;intros;refine⟨k+1,ab,ab,?_,?_⟩
   ·rw[show(((k+1:Nat)):Int)=(k:Int)+1 by omega];exact av
   ·rw[show 2*(k+1)=2*k+1+1 by omega];exact ae
  ·simp only[ao,an] at hL;subst hL;refine Jq ?_;intros;exact KX.d7 al (Ent.d7 (Ent.nil _)) (.inr ⟨2*k+1,rfl⟩)
 ·simp only[ao,an] at hL;subst hL;refine Jq ?_;intros;exact KX.d7 al (Ent.d7 (Ent.nil _)) (.inr ⟨2*k,rfl⟩)
def stkA(b:Nat)(xs:LL)(x:OA×Nat):LH:=[obj b fL [ah x.1 xs.length x.2],osl aj 3 tLot x.1 x.2 xs]
def stkO(b:Nat)(xs:LL):HP:=hex fun x=>cR (stkA b xs x)
def divF(l:LL)(cs:Nat→Int)(m:Nat):LL:=((List.range m).map (pcF l cs)).foldl aY []
def divR(l:LL)(cs:Nat→Int)(m:Nat):LL:=((List.range m).map (pcR l cs)).foldl aY []
def qE(l:LL)(cs:Nat→Int)(m:Nat):divF l cs (m+1)=aY (divF l cs m) (pcF l cs m):=by simp[divF,ft]
def nD(l:LL)(cs:Nat→Int)(m:Nat):divR l cs (m+1)=aY (divR l cs m) (pcR l cs m):=by simp[divR,ft]
def kq(l:LL)(cs:Nat→Int)(m:Nat):(divF l cs m).length≤m∧(divR l cs m).length≤m:=by
 have h1:=jd ((List.range m).map (pcF l cs)) [];have h2:=jd ((List.range m).map (pcR l cs)) [];simp at h1 h2;exact⟨h1,h2⟩
def pc_w{l:LL}{cs:Nat→Int}{k:Nat}(hk:k<l.length)(hw:∀x∈l,LotW x)(hc:0≤cs k∧cs k≤l[k]!.2.2):LotW (pcF l cs k)∧LotW (pcR l cs k):=by
 have:=hw _ (aI hk)
 unfold LotW at *;simp only[pcF,pcR,pc1,pc2];omega
def wk{l:LL}{cs:Nat→Int}(hw:∀x∈l,LotW x)(hc:∀k,k<l.length→0≤cs k∧cs k≤l[k]!.2.2)(m:Nat)(hm:m≤l.length):(∀x∈divF l cs m,LotW x)∧∀x∈divR l cs m,LotW x:=by
 constructor
 ·refine kE bZ ?_;intro x hx;obtain⟨k,hk,rfl⟩:=List.mem_map.1 hx;have a0:=List.mem_range.1 hk;exact(pc_w ab hw (hc k ab)).1
 ·refine kE bZ ?_;intro x hx;obtain⟨k,hk,rfl⟩:=List.mem_map.1 hx;have a0:=List.mem_range.1 hk;exact(pc_w ab hw (hc k ab)).2
abbrev CT:List Stp:=[.ev 0,.ev 1,.ef 2,.ef 3]
def hU{φ ψ:Prop}(k:ψ)(h:Hid ψ→φ:=by intro k;first|refine GO.ci (f:=325) (Hid.out k)|refine GPW.ci (f:=325) (Hid.out k)|refine GO.cf (f:=325) rfl (Hid.out k)|refine GPW.cf (f:=325) rfl (Hid.out k)|refine KX.inA (Hid.out k)):φ:=h ⟨k⟩
def hM{φ ψ:Prop}(k:ψ)(h:Hid ψ→φ:=by intro k;(with_reducible apply G.d7);first|refine G.dr 22 7 CT (Hid.out k)):φ:=h ⟨k⟩
def nV(g:Nat)(cap:LV)(ad:OA)(c:Nat)(l:LL)(cs:Nat→Int)(C:Nat→HP)(hm:l.length≤1000000)(hw:∀x∈l,LotW x)(hc:∀k,k<l.length→0≤cs k∧cs k≤l[k]!.2.2)(hC:ud g cap l.length cs C) :
  Tri ai 302 #[ah ad l.length c,.func (.func g) #[] cap.toArray] [C 0,isl aj 3 ad l] (fun v L'=>∃a0 c1 ad2 c2,v=.tuple #[ah a0 (divF l cs l.length).length c1,ah ad2 (divR l cs l.length).length c2]∧L' = [osl aj 3 tLot a0 c1 (divF l cs l.length),osl aj 3 tLot ad2 c2 (divR l cs l.length)]):=by
 refine Tri.bd ?_;repeat first|refine aa ?_|intro _|refine hM ?_|refine hU ?_
 rename_i b4 b5 bx bf;refine G.f8 (AU bx bf g cap ad c l cs C hm hw hc hC) rfl en336.1 ag ?_ (fun k=>[stkO b4 (divF l cs ((k+1) / 2)),stkO b5 (divR l cs (k / 2))]) ?_ ?_ ?_
 ·intro vs a9;obtain⟨k,_,rfl⟩:=List.mem_map.1 a9;unfold pcV;split<;>rfl
 ·simp only[ao,an];rw[show divF l cs ((0+1) / 2)=[] from rfl,show divR l cs (0 / 2)=[] from rfl];refine Ent.trans ?_ (Ent.j0 (none,0) (f:=stkA b4 []) (Ent.refl _));refine Ent.trans ?_ (Ent.append (Ent.refl (stkA b4 [] (none,0))) (Ent.j0 (none,0) (f:=stkA b5 []) (Ent.refl _)));simp only[stkA,cQ,ao,an];refine Ent.trans (Ent.d8 aj 3 tLot) (Ent.trans (Ent.d8 aj 3 tLot) ?_);exact ae
 ·intro k hk;have b0:k<2*l.length:=by rw[oQ] at hk;exact hk
  rw[xG];obtain⟨m,a7⟩:∃m,m=k / 2:=⟨_,rfl⟩;have a4:m<l.length:=ab;obtain⟨a6,a5⟩:=pc_w a4 hw (hc m a4);have a3:=kq l cs m;have a8:=kq l cs (m+1);have a1:=wk hw hc m ab;unfold pcV;by_cases a2:k % 2=0
  ·rw[if_pos a2,←a7,show(k+1) / 2=m by omega,show(k+1+1) / 2=m+1 by omega,qE];generalize divF l cs m=T at a3 a1;generalize divR l cs m=R;generalize pcF l cs m=x at a6;show G _ _ _ ((12,.bool true)::(11,aN (aj x))::_) _ _;refine G.e7 (f:=stkA b4 T) ?_;rintro⟨a0,c1⟩;simp only[stkA,ao,an];repeat first|refine aa ?_|intro _|refine hM ?_|refine hU ?_
   refine GO.ent (Ent.at (A:=osl aj 3 tLot a0 c1 T) (Ent.refl _)) ?_;refine GO.ca (qr a0 c1 T x ab a1.1 a6) ?_;rintro _ _⟨ad2,c2,rfl,rfl⟩;repeat first|refine aa ?_|intro _|refine hM ?_|refine hU ?_
   refine KX.round ?_;refine Ent.trans ?_ (Ent.j0 (ad2,c2) (f:=stkA b4 (aY T x)) (Ent.refl _));simp only[stkA,ao,an];exact ae
  ·rw[if_neg a2,←a7,show(k+1) / 2=m+1 by omega,show(k+1+1) / 2=m+1 by omega,nD];generalize divF l cs (m+1)=T;generalize divR l cs m=R at a3 a1;generalize pcR l cs m=x at a5;show G _ _ _ ((12,.bool false)::(11,aN (aj x))::_) _ _;refine G.ent Ent.swap ?_;refine G.e7 (f:=stkA b5 R) ?_;rintro⟨a0,c1⟩;simp only[stkA,ao,an];repeat first|refine aa ?_|intro _|refine hM ?_|refine hU ?_
   refine GO.ent (Ent.at (A:=osl aj 3 tLot a0 c1 R) (Ent.refl _)) ?_;refine GO.ca (qr a0 c1 R x ab a1.2 a5) ?_;rintro _ _⟨ad2,c2,rfl,rfl⟩;repeat first|refine aa ?_|intro _|refine hM ?_|refine hU ?_
   refine KX.round ?_;refine Ent.trans ?_ (Ent.swap (A:=stkO b5 (aY R x)));refine Ent.trans ?_ (Ent.j0 (ad2,c2) (f:=stkA b5 (aY R x)) (Ent.refl _));simp only[stkA,ao,an];exact ae
 ·rw[oQ,show(2*l.length+1) / 2=l.length by omega,show 2*l.length / 2=l.length by omega];generalize divF l cs l.length=T;generalize divR l cs l.length=R;simp only[aQ];refine KX.d8 (KX.g8 ?_);refine G.e7 (f:=stkA b4 T) ?_;rintro⟨a0,c1⟩;refine G.ent (L':=stkO b5 R::stkA b4 T (a0,c1)) (Ent.perm (by simp only[stkA,ao,an];exact(List.Perm.cons _ (List.Perm.swap _ _ _)).trans (List.Perm.swap _ _ _))) ?_;refine G.e7 (f:=stkA b5 R) ?_;rintro⟨ad2,c2⟩;simp only[stkA,ao,an];repeat first|refine aa ?_|intro _|refine hM ?_|refine hU ?_
  refine KX.d7 (vs:=[ah a0 T.length c1,ah ad2 R.length c2]) (ResOk.d7 rfl (ResOk.d7 rfl ResOk.nil)) ?_ ⟨a0,c1,ad2,c2,rfl,rfl⟩;exact ae
def fuR(l:LL)(m:Int):Nat→Int
 | 0=>m
 | k+1=>fuR l m k - min (fuR l m k) l[k]!.2.2
def fuC(l:LL)(m:Int)(k:Nat):Int:=min (fuR l m k) l[k]!.2.2
def ot{l:LL}{m:Int}(h0:0≤m)(hw:∀x∈l,LotW x):∀k,k≤l.length→0≤fuR l m k∧fuR l m k≤m
 | 0,_=>⟨h0,bg _⟩
 | k+1,hk=>by
  have ih:=ot h0 hw k ab;have:=hw _ (aI (ab:k<l.length))
  unfold LotW at this;simp only[fuR];omega
def ou{l:LL}{m:Int}(h0:0≤m)(hw:∀x∈l,LotW x)(k:Nat)(hk:k<l.length):0≤fuC l m k∧fuC l m k≤l[k]!.2.2:=by
 have h1:=ot h0 hw k ab;have:=hw _ (aI hk)
 unfold LotW at this;unfold fuC;omega
abbrev tInt:Nat:=3
def fuA(bn bl:Nat)(ad:OA)(c:Nat)(l:LL)(m:Int)(k:Nat):LH:=[obj bn tInt [ac (fuR l m k)],obj bl fL [ah ad l.length c],isl aj 3 ad l]
abbrev CS:=ay5 []
def vy(bn bl:Nat)(ad:OA)(c:Nat)(l:LL)(m:Int)(hm:l.length≤1000000)(h0:0≤m)(h1:m≤1099511627776)(hw:∀x∈l,LotW x) :
  ud 320 [ax bn,ax bl] l.length (fuC l m) (fun k=>cR (fuA bn bl ad c l m k)):=by
 intro k hk L;have a0:(k:Int).toNat=k:=ab;have hb:=ot h0 hw k ab;have a1:=ou h0 hw k hk;have a2:=hw _ (aI hk);unfold LotW at a2;unfold fuC at a1;rw[←a0] at a2 a1;rw[a0] at a1;refine Tri.bd (args:=[ac (k:Int),ax bn,ax bl]) ?_;refine G.ent Ent.openS ?_;simp only[fuA,ao,an];repeat first|refine aa ?_|intro _|((with_reducible apply G.d7);first|refine G.dr 17 1 CS ?_)
 rw[a0];exact KX.d7 al (Ent.l6 (A:=[_,_,_]) (L:=L)) ⟨rfl,rfl⟩
def lQ{L:LH}(ad:OA)(n c:Nat)(xs:LL)[Rds L ad Lot aj 3 xs](hn:n=xs.length)(hb:xs.length≤4096)(hx:∀l∈xs,LotOk l) :
  Tri ai 262 #[ah ad n c] L (fun v L'=>v=ac (lsum xs)∧L' = L):=by
 refine Tri.bd ?_;refine Jq ?_;intros;refine GO.ca (iv ad n c xs hn hb hx) ?_;rintro _ L ⟨rfl,rfl⟩;refine Jq ?_;intros;refine GO.ca (nI ad n c xs hn hb hx) ?_;rintro _ L ⟨rfl,rfl⟩;refine Jq ?_;intros;exact KX.en ⟨rfl,rfl⟩
def iM{φ ψ:Prop}(k:ψ)(h:Hid ψ→φ:=by intro k;first|refine GO.ci (f:=299) (Hid.out k)|refine GPW.ci (f:=299) (Hid.out k)|refine GO.cf (f:=299) rfl (Hid.out k)|refine GPW.cf (f:=299) rfl (Hid.out k)|refine KX.inA (Hid.out k)):φ:=h ⟨k⟩
def Cn{L:LH}(ad:OA)(c:Nat)(xs:LL)(n:Int)(mixed:Bool)(a2:mixed=false)(hb:xs.length≤4096)(hx:∀l∈xs,LotOk l)(a1:0≤n)(a3:n≤1099511627776) :
  Tri ai 284 #[ah ad xs.length c,ac n,.bool mixed] (isl aj 3 ad xs::L) (fun v L' =>
   (lsum xs<n∧v=.tuple #[ah none 0 0,ah none 0 0,ac 10]∧L' = isl aj 3 ad xs::L) ∨
   (n≤lsum xs∧∃a0 c1 ad2 c2,v=.tuple #[ah a0 (divF xs (fuC xs n) xs.length).length c1,ah ad2 (divR xs (fuC xs n) xs.length).length c2,ac 0]∧L' = osl aj 3 tLot a0 c1 (divF xs (fuC xs n) xs.length)::osl aj 3 tLot ad2 c2 (divR xs (fuC xs n) xs.length)::isl aj 3 ad xs::L)):=by
 subst a2;have hw:∀x∈xs,LotW x:=fun x h=>(hx x h).w;refine Tri.bd ?_;repeat first|refine aa ?_|intro _|refine iM ?_
 refine GO.cr (iv ad xs.length c xs rfl hb hx) ?_;repeat first|refine aa ?_|intro _|refine iM ?_
 refine GO.cr (lQ ad xs.length c xs rfl hb hx) ?_;by_cases hs:lsum xs<n
 ·repeat first|refine aa ?_|intro _|refine iM ?_
  exact KX.d7 al (Ent.refl _) (.inl ⟨hs,rfl,rfl⟩)
 repeat first|refine aa ?_|intro _|refine iM ?_
 rename_i bl bn;refine GO.ent (L':=cR (fuA bn bl ad c xs n 0)::isl aj 3 ad xs::isl aj 3 ad xs::L) ?_ ?_
 ·refine Ent.trans ?_ Ent.l6;simp only[fuA,fuR,ao,an];refine(Ent.at (A:=isl aj 3 ad xs) (Ent.dup (lH _ _ _ _))).trans ?_;refine(Ent.dup (lH _ _ _ _)).trans ?_;exact ae
 (first|refine GO.ef (Ef.call (nV _ _ ad c xs (fuC xs n) (fun k=>cR (fuA bn bl ad c xs n k)) ab hw (ou a1 hw) (vy bn bl ad c xs n ab a1 a3 hw)) rfl cJ) ag ?_);rintro _ _⟨_,⟨a0,c1,ad2,c2,rfl,rfl⟩,hL⟩;simp only[ao,an] at hL;subst hL;repeat first|refine aa ?_|intro _|refine iM ?_
 exact KX.d7 al (Ent.refl _) (.inr ⟨ab,a0,c1,ad2,c2,rfl,rfl⟩)
structure MvM where
 frm:Int
 to:Int
 item:Int
 n:Int
 parts:LL
 deriving Inhabited,DecidableEq
structure MvV where
 m:MvM
 pad:OA
 pcap:Nat
 deriving Inhabited
def aM(m:MvV):LV:=[ac m.m.frm,ac m.m.to,ac m.m.item,ac m.m.n,ah m.pad m.m.parts.length m.pcap]
def jN(t:MvV):∀u∈aM t,u.oneCell' = true:=by simp[aM,Value.oneCell']
instance:EncC aM:=⟨jN⟩
abbrev mvP(m:MvV):HP:=isl aj 3 m.pad m.m.parts
def iP(m:MvV):PersM (mvP m):=bN _ _ _ _
abbrev tMv:Nat:=74
def mv0:MvV:=⟨⟨0,0,0,0,[]⟩,none,0⟩
def qG{L:LH}(m:MvV)(hl:m.m.parts.length≤1000000) :
  Tri ai 126 #[aN (aM m)] (mvP m::L) (fun v L'=>∃m',v=aN (aM m')∧m'.m=m.m∧L' = mvP m'::mvP m::L):=by
 obtain⟨⟨frm,to,item,n,parts⟩,pad,pcap⟩:=m;dsimp only at hl;refine Tri.bd (args:=[aN (aM ⟨⟨frm,to,item,n,parts⟩,pad,pcap⟩)]) ?_;refine Jq ?_;intros;refine GO.ca (ig pad parts.length pcap parts rfl ab) ?_;rintro _ _⟨a1,a0,rfl,rfl⟩;refine Jq ?_;intros;refine KX.d7 (by exact ResOk.cell rfl aK (ResOk.nil)) ?_ ⟨⟨⟨frm,to,item,n,parts⟩,a1,a0⟩,rfl,rfl,rfl⟩;refine(Ent.frz a1).trans ?_;exact ae
def de{α:Type}[Inhabited α]{l:List α}{i:Nat}{x:α}(h:i<l.length):(l.set i x).take (i+1)=l.take i++[x]:=by
 rw[aD (by simpa using h),List.take_set_of_le (aB _)];simp
def yw{L:LH}(ad:OA)(c:Nat)(ms:List MvV)(hl:ms.length≤64)(hp:∀m∈ms,m.m.parts.length≤1000000) :
  Tri ai 125 #[ah ad ms.length c,.func (.func 126) #[] #[]] (isl aM 5 ad ms::allP mvP ms::L) (fun v L'=>∃a3 c' a0,v=ah a3 a0.length c'∧a0.map (·.m)=ms.map (·.m)∧L' = isl aM 5 a3 a0::allP mvP a0::isl aM 5 ad ms::allP mvP ms::L):=by
 refine Tri.bd ?_;by_cases h0:ms.length=0
 ·have e:ms=[]:=aX h0;subst e;refine Jq ?_;intros;exact KX.d7 al ((Ent.d9 mvP).trans (Ent.e8 aM 5 none)) ⟨none,0,[],rfl,rfl,rfl⟩
 refine Jq ?_;intros;refine GO.ef (Ef.e9 aM mv0 rfl rfl rfl ab ab ab ab) ag ?_;rintro _ _⟨bs,rfl,rfl⟩;rw[show(ms.length:Int).toNat=ms.length by omega];refine Jq ?_;intros
 refine G.loop (α:=Nat×List MvV) (fun z=>z.1≤ms.length∧z.2.length=ms.length∧(z.2.take z.1).map (·.m)=(ms.take z.1).map (·.m)) (fun z=>[(1,.func (.func 126) #[] #[]),(5,ah (some ⟨bs,0,none⟩) ms.length ms.length),(14,ah ad ms.length c),(15,ac (ms.length:Int)),(16,ac (z.1:Int))])
  (fun z=>osl aM 5 tMv (some ⟨bs,0,none⟩) ms.length z.2::allP mvP (z.2.take z.1)::isl aM 5 ad ms::allP mvP ms::L) (fun z=>ms.length - z.1) (0,List.replicate ms.length mv0) ⟨aw _,by simp,by simp⟩ av ?_ ?_
 ·dsimp only;rw[bH];refine(Ent.d9 mvP).trans ?_;exact ae
 rintro⟨i,zs⟩ ⟨hi,a4,a1⟩;dsimp only at hi a4 a1 ⊢;by_cases a2:i<ms.length
 case neg =>
  have a7:i=ms.length:=ab;subst a7;rw[aF ab,aF ab] at a1;rw[aF (ab:zs.length≤ms.length)];refine Jq ?_;intros;refine KX.d7 al (Ent.freezeSl) ⟨some ⟨bs,0,none⟩,ms.length,zs,by rw[a4];rfl,a1,rfl⟩
 have a6:(i:Int).toNat=i:=ab;have a5:ms[i]!∈ms:=aI a2;refine Jq ?_;intros;rw[a6];refine GO.ent (Ent.at (A:=allP mvP ms) (Ent.e7 (x:=ms[i]!) a5)) ?_;refine GO.ef (Ef.d8 rfl rfl (qG ms[i]! (hp _ a5))) ag ?_;rintro _ _⟨m',rfl,a8,rfl⟩;refine Jq ?_;intros;refine GO.efu (Ef.e8 (e:=m') rfl rfl aK aK (jN _) ab) ?_;rintro _ _ rfl;rw[a6];refine Jq ?_;intros;refine⟨(i+1,zs.set i m'),⟨by dsimp only;omega,by dsimp only;simp;omega,?_⟩,by dsimp only;omega,?_,?_⟩
 ·dsimp only;rw[de ab,aD a2,aW,aW,a1,←getElem!_of a2];simp[a8]
 ·dsimp only;rw[aV i];exact av
 ·dsimp only;rw[de ab];refine Ent.d7 ?_;refine Ent.trans (B:=allP mvP (zs.take i)::mvP m'::isl aM 5 ad ms::allP mvP ms::L) ae ?_;exact(Ent.d7 (Ent.f8 iP)).trans (Ent.g7 iP)
structure StM where
 id:Int
 kind:Int
 actor:Int
 tick:Int
 rule:Int
 times:Int
 moves:List MvM
 deriving Inhabited
structure StV where
 id:Int
 kind:Int
 actor:Int
 tick:Int
 rule:Int
 times:Int
 moves:List MvV
 mad:OA
 mcap:Nat
 deriving Inhabited
def StV.m(s:StV):StM:=⟨s.id,s.kind,s.actor,s.tick,s.rule,s.times,s.moves.map (·.m)⟩
def aT(s:StV):LV:=[ac s.id,ac s.kind,ac s.actor,ac s.tick,ac s.rule,ac s.times,ah s.mad s.moves.length s.mcap]
def jM(t:StV):∀u∈aT t,u.oneCell' = true:=by simp[aT,Value.oneCell']
instance:EncC aT:=⟨jM⟩
abbrev stM(s:StV):HP:=isl aM 5 s.mad s.moves
abbrev stP(s:StV):HP:=allP mvP s.moves
def oF(s:StV):PersM (stM s):=bN _ _ _ _
def qF{L:LH}(s:StV)(hl:s.moves.length≤64)(hp:∀m∈s.moves,m.m.parts.length≤1000000) :
  Tri ai 68 #[aN (aT s)] (stM s::stP s::L) (fun v L'=>∃s',v=aN (aT s')∧s'.m=s.m∧L' = stM s'::stP s'::stM s::stP s::L):=by
 obtain⟨i0,i1,i2,i3,i4,i5,ms,mad,mcap⟩:=s;dsimp only at hl hp;refine Tri.bd (args:=[aN (aT ⟨i0,i1,i2,i3,i4,i5,ms,mad,mcap⟩)]) ?_;refine Jq ?_;intros;refine GO.ent (Ent.at (A:=isl aM 5 mad ms) (Ent.d7 (Ent.at (A:=allP mvP ms) (Ent.refl _)))) ?_;refine GO.ca (yw mad mcap ms hl hp) ?_;rintro _ _⟨a0,c',a1,rfl,a2,rfl⟩;refine Jq ?_;intros;refine KX.d7 (by exact ResOk.cell rfl aK (ResOk.nil)) ?_ ⟨⟨i0,i1,i2,i3,i4,i5,a1,a0,c'⟩,rfl,by simp only[StV.m,a2],rfl⟩;exact ae
