/- Lemmas. -/
import Derived.Test.YtommnllbflbdmaaGreatDoorIaj
set_option linter.all false
set_option maxHeartbeats 1000000
namespace Go.Proofs.YtommnllbflbdmaaGreatDoor
section
open Go.V
attribute [local irreducible] G GO GP GPW GPK Ev Ef EfR Ent CB GB Enters
def LotW(l:Lot):Prop:=0≤l.1∧0≤l.2.1∧0≤l.2.2∧l.2.1+l.2.2≤1099511627776
def LotOk.w{l:Lot}(h:LotOk l):LotW l:=by unfold LotOk at h;unfold LotW;omega
def kQ(x b:Lot):Prop:=[x.1,x.2.1,0]=[b.1,b.2.1+b.2.2,0]
instance (x b:Lot):Decidable (kQ x b):=by unfold kQ;infer_instance
def lcont_iff{x b:Lot}:kQ x b↔x.1=b.1∧x.2.1=b.2.1+b.2.2:=by simp[kQ]
def ba(l:LL)(x:Lot):LL :=
 if x.2.2=0 then l else if l.length≠0∧kQ x l[l.length - 1]! then l.set (l.length - 1) (l[l.length - 1]!.1,l[l.length - 1]!.2.1,l[l.length - 1]!.2.2+x.2.2) else l++[x]
def kC(l:LL)(x:Lot):(ba l x).length≤l.length+1:=by
 unfold ba;split
 ·omega
 ·split<;>simp
def qh{l:LL}{x:Lot}(h:∀y∈l,LotW y)(hx:LotW x):∀y∈ba l x,LotW y:=by
 unfold ba;split
 ·exact h
 ·split
  ·rename_i hc;obtain⟨a1,a0⟩:=hc;rw[lcont_iff] at a0;intro y hy;rcases co hy with hy|rfl
   ·exact h y hy
   ·have:=h _ (aG (show l.length - 1<l.length by omega))
    unfold LotW at this hx ⊢;dsimp only;omega
  ·intro y hy;rcases List.mem_append.1 hy with hy|hy
   ·exact h y hy
   ·rw[List.mem_singleton] at hy;subst hy;exact hx
def oU{xs:LL}:∀{l:LL},(∀y∈l,LotW y)→(∀y∈xs,LotW y)→∀y∈xs.foldl ba l,LotW y:=by
 induction xs with
 | nil=>intro l h _;exact h
 | cons x xs ih =>
  intro l h hx;exact ih (qh h (hx x (au ..))) (fun y hy=>hx y (aq _ hy))
def kT(xs:LL):∀l:LL,(xs.foldl ba l).length≤l.length+xs.length:=by
 induction xs with
 | nil=>intro l;simp
 | cons x xs ih =>
  intro l;have h1:=ih (ba l x);have h2:=kC l x;simp only[gx,bu];omega
def BT{L:LH}(x b:Lot)(hb:LotW b):Tri ag 289 #[.agg (ao x).toArray,.agg (ao b).toArray] L (fun v L'=>v=.bool (dB (kQ x b))∧L' = L):=by
 unfold LotW at hb;refine Tri.bd ?_;refine Hz ?_;intros;exact KX.en ⟨rfl,rfl⟩
abbrev Bq:List Stp:=[.ev 0,.ev 1,.ev 2,.ev 3,.ev 4,.ev 5,.ev 6,.ev 7,.ev 8,.ef 9,.ev 10]
abbrev Bp:List Stp:=[.ev 0,.ev 1,.ev 2,.ev 3,.ev 4,.ev 5,.ev 6,.ev 7,.ev 8,.ev 9,.ev 10,.ef 11]
def HA{φ ψ:Prop}(k:ψ)(h:Hid ψ→φ:=by intro k;(repeat (first|refine aa ?_|intro zzz|((with_reducible apply G.d8);first|refine G.d7 (N:=39) (id:=4) Bq mixed aw ?_|refine G.d7 (N:=39) (id:=5) Bp mixed aw ?_)));(repeat revert zzz);exact Hid.out k):φ:=h ⟨k⟩
def pD{L:LH}(ad:OA)(cap:Nat)(xs:LL)(x:Lot)(hl:xs.length≤100000000)(a4:∀y∈xs,LotW y)(hx:LotW x) :
  Tri ag 268 #[.slice ad xs.length cap,.agg (ao x).toArray] (osl ao 3 tLot ad cap xs::L) (fun v L'=>∃a3 a0,v=.slice a3 (ba xs x).length a0∧L' = osl ao 3 tLot a3 a0 (ba xs x)::L):=by
 refine Tri.bd ?_;by_cases h0:x.2.2=0
 ·have e:ba xs x=xs:=by unfold ba;rw[if_pos h0]
  rw[e];refine HA ?_;intros;exact KX.en ⟨ad,cap,rfl,rfl⟩
 by_cases h1:xs.length=0
 ·have e:ba xs x=xs++[x]:=by unfold ba;rw[if_neg h0,if_neg (fun h=>h.1 h1)]
  rw[e];refine HA ?_;intros;refine GO.ef (Ef.d7 (enc:=ao) (e:=x) rfl rfl rfl rfl rfl (by rfl) (cK _) ab ab) ah ?_;rintro _ _⟨ad2,cap2,rfl,rfl⟩;refine HA ?_;intros;exact KX.en ⟨ad2,cap2,rfl,rfl⟩
 have a1:((xs.length:Int) - 1).toNat=xs.length - 1:=ab;have a2:=a4 _ (aG (show xs.length - 1<xs.length by omega));rw[←a1] at a2;refine HA ?_;intros;refine GPW.cr (BT x xs[((xs.length:Int) - 1).toNat]! a2) ?_;by_cases hc:kQ x xs[((xs.length:Int) - 1).toNat]!
 ·have a5:=lcont_iff.1 hc;rw[aT hc];unfold LotW at a2 hx;refine HA ?_;intros;refine GPW.efu (Ef.g7 (e:=((xs[((xs.length:Int) - 1).toNat]!.1,xs[((xs.length:Int) - 1).toNat]!.2.1,xs[((xs.length:Int) - 1).toNat]!.2.2+x.2.2):Lot)) rfl rfl (by rfl) rfl ab ah) ?_;rintro _ _ rfl
  have e:ba xs x=xs.set ((xs.length:Int) - 1).toNat (xs[((xs.length:Int) - 1).toNat]!.1,xs[((xs.length:Int) - 1).toNat]!.2.1,xs[((xs.length:Int) - 1).toNat]!.2.2+x.2.2):=by
   unfold ba;rw[a1] at hc ⊢;rw[if_neg h0,if_pos ⟨h1,hc⟩]
  rw[e];refine HA ?_;intros;exact KX.d7 an ae ⟨ad,cap,by rw[bE];rfl,rfl⟩
 ·rw[aH hc]
  have e:ba xs x=xs++[x]:=by
   unfold ba;rw[a1] at hc;rw[if_neg h0,if_neg (fun h=>hc h.2)]
  rw[e];refine HA ?_;intros;refine GO.ef (Ef.d7 (enc:=ao) (e:=x) rfl rfl rfl rfl rfl (by rfl) (cK _) ab ab) ah ?_;rintro _ _⟨ad2,cap2,rfl,rfl⟩;refine HA ?_;intros;exact KX.en ⟨ad2,cap2,rfl,rfl⟩
def pc1(x:Lot)(c:Int):Lot:=(x.1,x.2.1,c)
def pc2(x:Lot)(c:Int):Lot:=(x.1,x.2.1+c,x.2.2 - c)
def pcF(l:LL)(cs:Nat→Int)(k:Nat):Lot:=pc1 l[k]! (cs k)
def pcR(l:LL)(cs:Nat→Int)(k:Nat):Lot:=pc2 l[k]! (cs k)
def pcV(l:LL)(cs:Nat→Int)(k:Nat):LV:=if k % 2=0 then[.agg (ao (pcF l cs (k / 2))).toArray,.bool true] else[.agg (ao (pcR l cs (k / 2))).toArray,.bool false]
def pcVs(l:LL)(cs:Nat→Int):List (LV):=(List.range (2*l.length)).map (pcV l cs)
def ow(l:LL)(cs:Nat→Int):(pcVs l cs).length=2*l.length:=by simp[pcVs]
def ww{l:LL}{cs:Nat→Int}{k:Nat}(h:k<(pcVs l cs).length):(pcVs l cs)[k]=pcV l cs k:=by simp[pcVs]
def sV(g:FuncId)(cap:LV)(n:Nat)(cs:Nat→Int)(C:Nat→HP):Prop:=∀k,k<n→∀L:LH,Tri ag g (([]++[Value.int .i64 (k:Int)]++cap:LV)).toArray (C k::L) (fun v L'=>v=ac (cs k)∧L' = C (k+1)::L)
abbrev jL:Nat:=72
abbrev tCnt:Nat:=68
def zr(bx bf g:Nat)(cap:LV)(ad:OA)(c:Nat)(l:LL)(cs:Nat→Int)(C:Nat→HP)(hm:l.length≤1000000)(hw:∀x∈l,LotW x)(hc:∀k,k<l.length→0≤cs k∧cs k≤l[k]!.2.2)(hC:sV g cap l.length cs C) :
  FG ag 336 [av bx,av bf] (pcVs l cs) [obj bx jL [.slice ad l.length c],obj bf tCnt [.func (.func g) #[] cap.toArray],C 0,isl ao 3 ad l] []:=by
 intro i J Jx hy;rw[ow]
 have a3 : ∀k (hk:k<2*l.length),YTri ag i (pcV l cs k) [J k] (fun v L'=>(v=.bool true∧L' = [J (k+1)])∨(v=.bool false∧L' = [Jx k])):=by
  intro k hk;have h:=hy k (by rw[ow];exact hk);rw[ww] at h;exact h
 clear hy;refine Tri.bd (args:=[.func (.yield i) #[] #[],av bx,av bf]) ?_;refine Hz ?_;intros;refine G.loop (α:=Nat) (fun k=>k≤l.length) (fun k=>[(0,.func (.yield i) #[] #[]),(1,av bx),(2,av bf),(7,.slice ad l.length c),(8,ac l.length),(9,ac (k:Int))]) (fun k=>[J (2*k),obj bx jL [.slice ad l.length c],obj bf tCnt [.func (.func g) #[] cap.toArray],C k,isl ao 3 ad l]) (fun k=>l.length - k) 0 (aj _) ai (Ent.refl _) ?_;intro k hk;by_cases a0:k<l.length
 case neg =>
  have a4:k=l.length:=ab;refine Hz ?_;intros;refine KX.e9 an (Ent.d7 (Ent.nil _)) (.inl ?_);rw[a4]
 have a5:(k:Int).toNat=k:=ab;have a6:=hw _ (aG a0);have a7:=hc k a0;have a1:=a3 (2*k) ab;have a2:=a3 (2*k+1) ab;rw[show pcV l cs (2*k)=[.agg (ao (pcF l cs k)).toArray,.bool true] by unfold pcV;rw[if_pos ab,show 2*k / 2=k by omega]] at a1;rw[show pcV l cs (2*k+1)=[.agg (ao (pcR l cs k)).toArray,.bool false] by unfold pcV;rw[if_neg ab,show(2*k+1) / 2=k by omega]] at a2;unfold LotW at a6;refine Hz ?_;intros;rw[a5];refine GO.ent (Ent.at (A:=C k) (Ent.refl _)) ?_;refine GO.ef (Ef.d8 rfl rfl (hC k a0 _)) ah ?_;rintro _ _⟨rfl,rfl⟩;refine Hz ?_;intros;refine GO.ent (Ent.at (A:=J (2*k)) (Ent.refl _)) ?_;((with_reducible apply GO.d8);refine GO.efR (EfR.yield (a1) rfl rfl (by repeat (first|exact Ent.refl _|apply Ent.take))) ah ?_);rintro _ _⟨_,(⟨rfl,rfl⟩|⟨rfl,rfl⟩),hL⟩
 ·simp only[ax,ap] at hL;subst hL;refine Hz ?_;intros;((with_reducible apply GO.d8);refine GO.efR (EfR.yield (a2) rfl rfl (by repeat (first|exact Ent.refl _|apply Ent.take))) ah ?_);rintro _ _⟨_,(⟨rfl,rfl⟩|⟨rfl,rfl⟩),hL⟩
  ·simp only[ax,ap] at hL;subst hL;refine Hz ?_;intros;refine⟨k+1,ab,ab,?_,?_⟩
   ·rw[show(((k+1:Nat)):Int)=(k:Int)+1 by omega];exact ai
   ·rw[show 2*(k+1)=2*k+1+1 by omega];exact ae
  ·simp only[ax,ap] at hL;subst hL;refine Hz ?_;intros;exact KX.d7 an (Ent.d7 (Ent.nil _)) (.inr ⟨2*k+1,rfl⟩)
 ·simp only[ax,ap] at hL;subst hL;refine Hz ?_;intros;exact KX.d7 an (Ent.d7 (Ent.nil _)) (.inr ⟨2*k,rfl⟩)
def stkA(b:Nat)(xs:LL)(x:OA×Nat):LH:=[obj b jL [.slice x.1 xs.length x.2],osl ao 3 tLot x.1 x.2 xs]
def stkO(b:Nat)(xs:LL):HP:=hex fun x=>cM (stkA b xs x)
def divF(l:LL)(cs:Nat→Int)(m:Nat):LL:=((List.range m).map (pcF l cs)).foldl ba []
def divR(l:LL)(cs:Nat→Int)(m:Nat):LL:=((List.range m).map (pcR l cs)).foldl ba []
def pO(l:LL)(cs:Nat→Int)(m:Nat):divF l cs (m+1)=ba (divF l cs m) (pcF l cs m):=by simp[divF,ew]
def nb(l:LL)(cs:Nat→Int)(m:Nat):divR l cs (m+1)=ba (divR l cs m) (pcR l cs m):=by simp[divR,ew]
def jR(l:LL)(cs:Nat→Int)(m:Nat):(divF l cs m).length≤m∧(divR l cs m).length≤m:=by
 have h1:=kT ((List.range m).map (pcF l cs)) [];have h2:=kT ((List.range m).map (pcR l cs)) [];simp at h1 h2;exact⟨h1,h2⟩
def pc_w{l:LL}{cs:Nat→Int}{k:Nat}(hk:k<l.length)(hw:∀x∈l,LotW x)(hc:0≤cs k∧cs k≤l[k]!.2.2):LotW (pcF l cs k)∧LotW (pcR l cs k):=by
 have:=hw _ (aG hk)
 unfold LotW at *;simp only[pcF,pcR,pc1,pc2];omega
def vr{l:LL}{cs:Nat→Int}(hw:∀x∈l,LotW x)(hc:∀k,k<l.length→0≤cs k∧cs k≤l[k]!.2.2)(m:Nat)(hm:m≤l.length):(∀x∈divF l cs m,LotW x)∧∀x∈divR l cs m,LotW x:=by
 constructor
 ·refine oU (by simp) ?_;intro x hx;obtain⟨k,hk,rfl⟩:=List.mem_map.1 hx;have a0:=List.mem_range.1 hk;exact(pc_w ab hw (hc k ab)).1
 ·refine oU (by simp) ?_;intro x hx;obtain⟨k,hk,rfl⟩:=List.mem_map.1 hx;have a0:=List.mem_range.1 hk;exact(pc_w ab hw (hc k ab)).2
abbrev Bo:List Stp:=[.ev 0,.ev 1,.ef 2,.ef 3]
def gJ{φ ψ:Prop}(k:ψ)(h:Hid ψ→φ:=by intro k;first|refine GO.ci (f:=325) (Hid.out k)|refine GPW.ci (f:=325) (Hid.out k)|refine GO.cf (f:=325) rfl (Hid.out k)|refine GPW.cf (f:=325) rfl (Hid.out k)|refine KX.inA (Hid.out k)):φ:=h ⟨k⟩
def gI{φ ψ:Prop}(k:ψ)(h:Hid ψ→φ:=by intro k;(with_reducible apply G.d8);first|refine G.d7 (N:=22) (id:=7) Bo mixed aw (Hid.out k)):φ:=h ⟨k⟩
def nx(g:Nat)(cap:LV)(ad:OA)(c:Nat)(l:LL)(cs:Nat→Int)(C:Nat→HP)(hm:l.length≤1000000)(hw:∀x∈l,LotW x)(hc:∀k,k<l.length→0≤cs k∧cs k≤l[k]!.2.2)(hC:sV g cap l.length cs C) :
  Tri ag 302 #[.slice ad l.length c,.func (.func g) #[] cap.toArray] [C 0,isl ao 3 ad l] (fun v L'=>∃a0 c1 ad2 c2,v=.tuple #[.slice a0 (divF l cs l.length).length c1,.slice ad2 (divR l cs l.length).length c2]∧L' = [osl ao 3 tLot a0 c1 (divF l cs l.length),osl ao 3 tLot ad2 c2 (divR l cs l.length)]):=by
 refine Tri.bd ?_;repeat first|refine aa ?_|intro _|refine gI ?_|refine gJ ?_
 rename_i b4 b5 bx bf;refine G.j0 (zr bx bf g cap ad c l cs C hm hw hc hC) rfl en336.1 ah ?_ (fun k=>[stkO b4 (divF l cs ((k+1) / 2)),stkO b5 (divR l cs (k / 2))]) ?_ ?_ ?_
 ·intro vs a8;obtain⟨k,_,rfl⟩:=List.mem_map.1 a8;unfold pcV;split<;>rfl
 ·simp only[ax,ap];rw[show divF l cs ((0+1) / 2)=[] from rfl,show divR l cs (0 / 2)=[] from rfl];refine Ent.trans ?_ (Ent.l7 (none,0) (f:=stkA b4 []) (Ent.refl _));refine Ent.trans ?_ (Ent.append (Ent.refl (stkA b4 [] (none,0))) (Ent.l7 (none,0) (f:=stkA b5 []) (Ent.refl _)));simp only[stkA,cx,ax,ap];refine Ent.trans (Ent.d9 ao 3 tLot) (Ent.trans (Ent.d9 ao 3 tLot) ?_);exact ae
 ·intro k hk;have b0:k<2*l.length:=by rw[ow] at hk;exact hk
  rw[ww];obtain⟨m,a5⟩:∃m,m=k / 2:=⟨_,rfl⟩;have a4:m<l.length:=ab;obtain⟨a3,a2⟩:=pc_w a4 hw (hc m a4);have a6:=jR l cs m;have a9:=jR l cs (m+1);have a1:=vr hw hc m ab;unfold pcV;by_cases a7:k % 2=0
  ·rw[if_pos a7,←a5,show(k+1) / 2=m by omega,show(k+1+1) / 2=m+1 by omega,pO];generalize divF l cs m=T at a6 a1;generalize divR l cs m=R;generalize pcF l cs m=x at a3;show G _ _ _ ((12,.bool true)::(11,.agg (ao x).toArray)::_) _ _;refine G.f7 (f:=stkA b4 T) ?_;rintro⟨a0,c1⟩;simp only[stkA,ax,ap];repeat first|refine aa ?_|intro _|refine gI ?_|refine gJ ?_
   refine GO.ent (Ent.at (A:=osl ao 3 tLot a0 c1 T) (Ent.refl _)) ?_;refine GO.ca (pD a0 c1 T x ab a1.1 a3) ?_;rintro _ _⟨ad2,c2,rfl,rfl⟩;repeat first|refine aa ?_|intro _|refine gI ?_|refine gJ ?_
   refine KX.round ?_;refine Ent.trans ?_ (Ent.l7 (ad2,c2) (f:=stkA b4 (ba T x)) (Ent.refl _));simp only[stkA,ax,ap];exact ae
  ·rw[if_neg a7,←a5,show(k+1) / 2=m+1 by omega,show(k+1+1) / 2=m+1 by omega,nb];generalize divF l cs (m+1)=T;generalize divR l cs m=R at a6 a1;generalize pcR l cs m=x at a2;show G _ _ _ ((12,.bool false)::(11,.agg (ao x).toArray)::_) _ _;refine G.ent Ent.swap ?_;refine G.f7 (f:=stkA b5 R) ?_;rintro⟨a0,c1⟩;simp only[stkA,ax,ap];repeat first|refine aa ?_|intro _|refine gI ?_|refine gJ ?_
   refine GO.ent (Ent.at (A:=osl ao 3 tLot a0 c1 R) (Ent.refl _)) ?_;refine GO.ca (pD a0 c1 R x ab a1.2 a2) ?_;rintro _ _⟨ad2,c2,rfl,rfl⟩;repeat first|refine aa ?_|intro _|refine gI ?_|refine gJ ?_
   refine KX.round ?_;refine Ent.trans ?_ (Ent.swap (A:=stkO b5 (ba R x)));refine Ent.trans ?_ (Ent.l7 (ad2,c2) (f:=stkA b5 (ba R x)) (Ent.refl _));simp only[stkA,ax,ap];exact ae
 ·rw[ow,show(2*l.length+1) / 2=l.length by omega,show 2*l.length / 2=l.length by omega];generalize divF l cs l.length=T;generalize divR l cs l.length=R;simp only[aY];refine KX.e8 (KX.l7 ?_);refine G.f7 (f:=stkA b4 T) ?_;rintro⟨a0,c1⟩;refine G.ent (L':=stkO b5 R::stkA b4 T (a0,c1)) (Ent.perm (by simp only[stkA,ax,ap];exact(List.Perm.cons _ (List.Perm.swap _ _ _)).trans (List.Perm.swap _ _ _))) ?_;refine G.f7 (f:=stkA b5 R) ?_;rintro⟨ad2,c2⟩;simp only[stkA,ax,ap];repeat first|refine aa ?_|intro _|refine gI ?_|refine gJ ?_
  refine KX.d7 (vs:=[.slice a0 T.length c1,.slice ad2 R.length c2]) (ResOk.d7 rfl (ResOk.d7 rfl ResOk.nil)) ?_ ⟨a0,c1,ad2,c2,rfl,rfl⟩;exact ae
def fuR(l:LL)(m:Int):Nat→Int
 | 0=>m
 | k+1=>fuR l m k - min (fuR l m k) l[k]!.2.2
def fuC(l:LL)(m:Int)(k:Nat):Int:=min (fuR l m k) l[k]!.2.2
def nP{l:LL}{m:Int}(h0:0≤m)(hw:∀x∈l,LotW x):∀k,k≤l.length→0≤fuR l m k∧fuR l m k≤m
 | 0,_=>⟨h0,bj _⟩
 | k+1,hk=>by
  have ih:=nP h0 hw k ab;have:=hw _ (aG (show k<l.length by omega))
  unfold LotW at this;simp only[fuR];omega
def nQ{l:LL}{m:Int}(h0:0≤m)(hw:∀x∈l,LotW x)(k:Nat)(hk:k<l.length):0≤fuC l m k∧fuC l m k≤l[k]!.2.2:=by
 have h1:=nP h0 hw k ab;have:=hw _ (aG hk)
 unfold LotW at this;unfold fuC;omega
abbrev tInt:Nat:=3
def fuA(bn bl:Nat)(ad:OA)(c:Nat)(l:LL)(m:Int)(k:Nat):LH:=[obj bn tInt [ac (fuR l m k)],obj bl jL [.slice ad l.length c],isl ao 3 ad l]
abbrev Bn:List Stp:=[.ev 0,.ev 1,.ev 2,.ev 3,.ev 4,.ev 5,.ev 6,.ev 7]
def uv(bn bl:Nat)(ad:OA)(c:Nat)(l:LL)(m:Int)(hm:l.length≤1000000)(h0:0≤m)(h1:m≤1099511627776)(hw:∀x∈l,LotW x) :
  sV 320 [av bn,av bl] l.length (fuC l m) (fun k=>cM (fuA bn bl ad c l m k)):=by
 intro k hk L;have a1:(k:Int).toNat=k:=ab;have hb:=nP h0 hw k ab;have a0:=nQ h0 hw k hk;have a2:=hw _ (aG hk);unfold LotW at a2;unfold fuC at a0;rw[←a1] at a2 a0;rw[a1] at a0;refine Tri.bd (args:=[ac (k:Int),av bn,av bl]) ?_;refine G.ent Ent.openS ?_;simp only[fuA,ax,ap];repeat first|refine aa ?_|intro _|((with_reducible apply G.d8);first|refine G.d7 (N:=17) (id:=1) Bn mixed aw ?_)
 rw[a1];exact KX.d7 an (Ent.l6 (A:=[_,_,_]) (L:=L)) ⟨rfl,rfl⟩
def nq{L:LH}(ad:OA)(n c:Nat)(xs:LL)[Rds L ad Lot ao 3 xs](hn:n=xs.length)(hb:xs.length≤4096)(hx:∀l∈xs,LotOk l) :
  Tri ag 262 #[.slice ad n c] L (fun v L'=>v=ac (lsum xs)∧L' = L):=by
 refine Tri.bd ?_;refine Hz ?_;intros;refine GO.ca (ka ad n c xs hn hb hx) ?_;rintro _ L ⟨rfl,rfl⟩;refine Hz ?_;intros;refine GO.ca (xJ ad n c xs hn hb hx) ?_;rintro _ L ⟨rfl,rfl⟩;refine Hz ?_;intros;exact KX.en ⟨rfl,rfl⟩
def io{φ ψ:Prop}(k:ψ)(h:Hid ψ→φ:=by intro k;first|refine GO.ci (f:=299) (Hid.out k)|refine GPW.ci (f:=299) (Hid.out k)|refine GO.cf (f:=299) rfl (Hid.out k)|refine GPW.cf (f:=299) rfl (Hid.out k)|refine KX.inA (Hid.out k)):φ:=h ⟨k⟩
def AK{L:LH}(ad:OA)(c:Nat)(xs:LL)(n:Int)(mixed:Bool)(a2:mixed=false)(hb:xs.length≤4096)(hx:∀l∈xs,LotOk l)(a1:0≤n)(a3:n≤1099511627776) :
  Tri ag 284 #[.slice ad xs.length c,ac n,.bool mixed] (isl ao 3 ad xs::L) (fun v L' =>
   (lsum xs<n∧v=.tuple #[.slice none 0 0,.slice none 0 0,ac 10]∧L' = isl ao 3 ad xs::L) ∨
   (n≤lsum xs∧∃a0 c1 ad2 c2,v=.tuple #[.slice a0 (divF xs (fuC xs n) xs.length).length c1,.slice ad2 (divR xs (fuC xs n) xs.length).length c2,ac 0]∧L' = osl ao 3 tLot a0 c1 (divF xs (fuC xs n) xs.length)::osl ao 3 tLot ad2 c2 (divR xs (fuC xs n) xs.length)::isl ao 3 ad xs::L)):=by
 subst a2;have hw:∀x∈xs,LotW x:=fun x h=>(hx x h).w;refine Tri.bd ?_;repeat first|refine aa ?_|intro _|refine io ?_
 refine GO.cr (ka ad xs.length c xs rfl hb hx) ?_;repeat first|refine aa ?_|intro _|refine io ?_
 refine GO.cr (nq ad xs.length c xs rfl hb hx) ?_;by_cases hs:lsum xs<n
 ·repeat first|refine aa ?_|intro _|refine io ?_
  exact KX.d7 an (Ent.refl _) (.inl ⟨hs,rfl,rfl⟩)
 repeat first|refine aa ?_|intro _|refine io ?_
 rename_i bl bn;refine GO.ent (L':=cM (fuA bn bl ad c xs n 0)::isl ao 3 ad xs::isl ao 3 ad xs::L) ?_ ?_
 ·refine Ent.trans ?_ Ent.l6;simp only[fuA,fuR,ax,ap];refine(Ent.at (A:=isl ao 3 ad xs) (Ent.dup (lg _ _ _ _))).trans ?_;refine(Ent.dup (lg _ _ _ _)).trans ?_;exact ae
 (first|refine GO.ef (Ef.call (nx _ _ ad c xs (fuC xs n) (fun k=>cM (fuA bn bl ad c xs n k)) ab hw (nQ a1 hw) (uv bn bl ad c xs n ab a1 a3 hw)) rfl (by repeat (first|exact Ent.refl _|apply Ent.take))) ah ?_);rintro _ _⟨_,⟨a0,c1,ad2,c2,rfl,rfl⟩,hL⟩;simp only[ax,ap] at hL;subst hL;repeat first|refine aa ?_|intro _|refine io ?_
 exact KX.d7 an (Ent.refl _) (.inr ⟨ab,a0,c1,ad2,c2,rfl,rfl⟩)
structure MvM where
 frm:Int
 to:Int
 item:Int
 n:Int
 parts:LL
 deriving Inhabited,DecidableEq
structure MvV where
 m:MvM
 pad:OA
 pcap:Nat
 deriving Inhabited
def aQ(m:MvV):LV:=[ac m.m.frm,ac m.m.to,ac m.m.item,ac m.m.n,.slice m.pad m.m.parts.length m.pcap]
def iL(t:MvV):∀u∈aQ t,u.oneCell' = true:=by simp[aQ,Value.oneCell']
instance:EncC aQ:=⟨iL⟩
abbrev mvP(m:MvV):HP:=isl ao 3 m.pad m.m.parts
def iI(m:MvV):PersM (mvP m):=bQ _ _ _ _
abbrev tMv:Nat:=74
def mv0:MvV:=⟨⟨0,0,0,0,[]⟩,none,0⟩
def pP{L:LH}(m:MvV)(hl:m.m.parts.length≤1000000) :
  Tri ag 126 #[.agg (aQ m).toArray] (mvP m::L) (fun v L'=>∃m',v=.agg (aQ m').toArray∧m'.m=m.m∧L' = mvP m'::mvP m::L):=by
 obtain⟨⟨frm,to,item,n,parts⟩,pad,pcap⟩:=m;dsimp only at hl;refine Tri.bd (args:=[.agg (aQ ⟨⟨frm,to,item,n,parts⟩,pad,pcap⟩).toArray]) ?_;refine Hz ?_;intros;refine GO.ca (lN pad parts.length pcap parts rfl ab) ?_;rintro _ _⟨a1,a0,rfl,rfl⟩;refine Hz ?_;intros;refine KX.d7 (by exact ResOk.cell rfl (by rfl) (ResOk.nil)) ?_ ⟨⟨⟨frm,to,item,n,parts⟩,a1,a0⟩,rfl,rfl,rfl⟩;refine(Ent.frz a1).trans ?_;exact ae
def dS{α:Type}[Inhabited α]{l:List α}{i:Nat}{x:α}(h:i<l.length):(l.set i x).take (i+1)=l.take i++[x]:=by
 rw[aC (by simpa using h),List.take_set_of_le (aB _)];simp
def xl{L:LH}(ad:OA)(c:Nat)(ms:List MvV)(hl:ms.length≤64)(hp:∀m∈ms,m.m.parts.length≤1000000) :
  Tri ag 125 #[.slice ad ms.length c,.func (.func 126) #[] #[]] (isl aQ 5 ad ms::allP mvP ms::L) (fun v L'=>∃a3 c' a1,v=.slice a3 a1.length c'∧a1.map (·.m)=ms.map (·.m)∧L' = isl aQ 5 a3 a1::allP mvP a1::isl aQ 5 ad ms::allP mvP ms::L):=by
 refine Tri.bd ?_;by_cases h0:ms.length=0
 ·have e:ms=[]:=aW h0;subst e;refine Hz ?_;intros;exact KX.d7 an ((Ent.e7 mvP).trans (Ent.f7 aQ 5 none)) ⟨none,0,[],rfl,rfl,rfl⟩
 refine Hz ?_;intros;refine GO.ef (Ef.g8 aQ mv0 rfl rfl rfl ab ab ab ab) ah ?_;rintro _ _⟨bs,rfl,rfl⟩;rw[show(ms.length:Int).toNat=ms.length by omega];refine Hz ?_;intros
 refine G.loop (α:=Nat×List MvV) (fun z=>z.1≤ms.length∧z.2.length=ms.length∧(z.2.take z.1).map (·.m)=(ms.take z.1).map (·.m)) (fun z=>[(1,.func (.func 126) #[] #[]),(5,.slice (some ⟨bs,0,none⟩) ms.length ms.length),(14,.slice ad ms.length c),(15,ac (ms.length:Int)),(16,ac (z.1:Int))])
  (fun z=>osl aQ 5 tMv (some ⟨bs,0,none⟩) ms.length z.2::allP mvP (z.2.take z.1)::isl aQ 5 ad ms::allP mvP ms::L) (fun z=>ms.length - z.1) (0,List.replicate ms.length mv0) ⟨aj _,by simp,by simp⟩ ai ?_ ?_
 ·dsimp only;rw[cd];refine(Ent.e7 mvP).trans ?_;exact ae
 rintro⟨i,zs⟩ ⟨hi,a6,a0⟩;dsimp only at hi a6 a0 ⊢;by_cases a2:i<ms.length
 case neg =>
  have a8:i=ms.length:=ab;subst a8;rw[aF ab,aF ab] at a0;rw[aF (show zs.length≤ms.length by omega)];refine Hz ?_;intros;refine KX.d7 an (Ent.freezeSl) ⟨some ⟨bs,0,none⟩,ms.length,zs,by rw[a6];rfl,a0,rfl⟩
 have a4:(i:Int).toNat=i:=ab;have a5:ms[i]!∈ms:=aG a2;refine Hz ?_;intros;rw[a4];refine GO.ent (Ent.at (A:=allP mvP ms) (Ent.d8 (x:=ms[i]!) a5)) ?_;refine GO.ef (Ef.d8 rfl rfl (pP ms[i]! (hp _ a5))) ah ?_;rintro _ _⟨m',rfl,a7,rfl⟩;refine Hz ?_;intros;refine GO.efu (Ef.e7 (e:=m') rfl rfl (by rfl) (by rfl) (iL _) ab) ?_;rintro _ _ rfl;rw[a4];refine Hz ?_;intros;refine⟨(i+1,zs.set i m'),⟨by dsimp only;omega,by dsimp only;simp;omega,?_⟩,by dsimp only;omega,?_,?_⟩
 ·dsimp only;rw[dS ab,aC a2,aZ,aZ,a0,←getElem!_of a2];simp[a7]
 ·dsimp only;rw[aK i];exact ai
 ·dsimp only;rw[dS ab];refine Ent.d7 ?_;refine Ent.trans (B:=allP mvP (zs.take i)::mvP m'::isl aQ 5 ad ms::allP mvP ms::L) ae ?_;exact(Ent.d7 (Ent.g9 iI)).trans (Ent.j0 iI)
structure StM where
 id:Int
 kind:Int
 actor:Int
 tick:Int
 rule:Int
 times:Int
 moves:List MvM
 deriving Inhabited
structure StV where
 id:Int
 kind:Int
 actor:Int
 tick:Int
 rule:Int
 times:Int
 moves:List MvV
 mad:OA
 mcap:Nat
 deriving Inhabited
def StV.m(s:StV):StM:=⟨s.id,s.kind,s.actor,s.tick,s.rule,s.times,s.moves.map (·.m)⟩
def aL(s:StV):LV:=[ac s.id,ac s.kind,ac s.actor,ac s.tick,ac s.rule,ac s.times,.slice s.mad s.moves.length s.mcap]
def jm(t:StV):∀u∈aL t,u.oneCell' = true:=by simp[aL,Value.oneCell']
instance:EncC aL:=⟨jm⟩
abbrev stM(s:StV):HP:=isl aQ 5 s.mad s.moves
abbrev stP(s:StV):HP:=allP mvP s.moves
def nZ(s:StV):PersM (stM s):=bQ _ _ _ _
def xq{L:LH}(s:StV)(hl:s.moves.length≤64)(hp:∀m∈s.moves,m.m.parts.length≤1000000) :
  Tri ag 68 #[.agg (aL s).toArray] (stM s::stP s::L) (fun v L'=>∃s',v=.agg (aL s').toArray∧s'.m=s.m∧L' = stM s'::stP s'::stM s::stP s::L):=by
 obtain⟨i0,i1,i2,i3,i4,i5,ms,mad,mcap⟩:=s;dsimp only at hl hp;refine Tri.bd (args:=[.agg (aL ⟨i0,i1,i2,i3,i4,i5,ms,mad,mcap⟩).toArray]) ?_;refine Hz ?_;intros;refine GO.ent (Ent.at (A:=isl aQ 5 mad ms) (Ent.d7 (Ent.at (A:=allP mvP ms) (Ent.refl _)))) ?_;refine GO.ca (xl mad mcap ms hl hp) ?_;rintro _ _⟨a0,c',a2,rfl,a1,rfl⟩;refine Hz ?_;intros;refine KX.d7 (by exact ResOk.cell rfl (by rfl) (ResOk.nil)) ?_ ⟨⟨i0,i1,i2,i3,i4,i5,a2,a0,c'⟩,rfl,by simp only[StV.m,a1],rfl⟩;exact ae
