/- Lemmas. -/
import Derived.Test.YtommnllbflbdmaaGreatDoorCatbl
set_option linter.all false
set_option maxHeartbeats 8000000
namespace Go.Proofs.YtommnllbflbdmaaGreatDoor
section
open Go.V
attribute [local irreducible] G GO GP GPW GPK Ev Ef EfR Ent CB GB V.Enters
abbrev Cj:=ar8 [.ev 17,.ev 18,.ev 19,.ev 20,.ev 21,.ev 22,.ev 23,.ev 24,.ev 25,.ev 26,.ev 27,.ev 28,.ev 29,.ev 30,.ev 31]
abbrev Ci:=ar6 []
abbrev Ch:=ar8 [.ev 17]
def bZ{φ ψ:Prop}(k:ψ)(h:Hid ψ→φ:=by intro k;(with_reducible apply G.d7);first|refine G.dr 131 4 Cj (Hid.out k)|refine G.dr 131 6 Ci (Hid.out k)|refine G.dr 131 9 Ch (Hid.out k)):φ:=h ⟨k⟩
def Sq{φ ψ:Prop}(k:ψ)(h:Hid ψ→φ:=by intro k;(repeat (first|refine aa ?_|intro zzz|refine bZ ?_));(repeat revert zzz);exact Hid.out k):φ:=h ⟨k⟩
def pC(bl bs:Nat)(ad:OA)(c:Nat)(l:LL1)(sad:OA)(sc:Nat)(set:LL1)(e5:l.length≤1000000)(e3:set.length≤1000000)(hw:∀x∈l,LotOk x)(hs:SetOk set) :
  DD ai 326 [aq bl,aq bs] ((l.flatMap (pcs set)).map GD) [obj bl ft [ae ad l.length c],obj bs ft [ae sad set.length sc],isl ay 3 ad l,isl ay 3 sad set] []:=by
 intro i J Jx hy;rw[aA]
 have a7 : ∀D q R,l.flatMap (pcs set)=D++q::R→YTri ai i (GD q) [J D.length] (fun v L'=>(v=.bool true∧L' = [J (D.length+1)])∨(v=.bool false∧L' = [Jx D.length])):=by
  intro D q R e;have hk:D.length<(l.flatMap (pcs set)).length:=by rw[e,ax,bE];omega
  have h:=hy D.length (by rw[aA];exact hk);rw[dY] at h;have e2:(l.flatMap (pcs set))[D.length]=q:=(List.getElem_of_eq e hk).trans bH;rw[e2] at h;exact h
 clear hy;have hV:∀k,k≤l.length→l.flatMap (pcs set)=(l.take k).flatMap (pcs set)++(l.drop k).flatMap (pcs set):=fun k _=>by rw[←cZ,dq]
 obtain⟨V,c5⟩:∃V,l.flatMap (pcs set)=V:=⟨_,rfl⟩;rw[c5] at a7 hV ⊢;refine Tri.bd (args:=[.func (.yield i) #[] #[],aq bl,aq bs]) ?_;refine Sq ?_;intros;refine G.loop (α:=Nat) (fun k=>k≤l.length) (fun k=>[(0,.func (.yield i) #[] #[]),(1,aq bl),(2,aq bs),(9,ae ad l.length c),(10,ac l.length),(11,ac (k:Int))]) (fun k=>[J ((l.take k).flatMap (pcs set)).length,obj bl ft [ae ad l.length c],obj bs ft [ae sad set.length sc],isl ay 3 ad l,isl ay 3 sad set]) (fun k=>l.length - k) 0 (az _) an (Ent.refl _) ?_;intro k hk;by_cases c9:k<l.length
 case neg =>
  have e0:k=l.length:=ab;have e:(l.take k).flatMap (pcs set)=V:=by rw[e0,cd,c5]
  rw[e];refine Sq ?_;intros;exact KX.e7 av (Ent.d7 (Ent.nil _)) (.inl rfl)
 have d6:(k:Int).toNat=k:=aD k;have b3 : (k:Int).toNat<l.length:=ab;obtain⟨x0,a6⟩:∃x0,l[(k:Int).toNat]! = x0:=⟨_,rfl⟩;have b7:LotOk x0:=by rw[←a6];exact hw _ (aL b3)
 have a4:l[k]! = x0:=by rw[←a6,d6]
 have hd:l.drop k=x0::l.drop (k+1):=by rw[fA c9,a4]
 have a8:V=(l.take k).flatMap (pcs set)++(pcs set x0++(l.drop (k+1)).flatMap (pcs set)):=by
  have:=hV k hk
  rw[hd,bB] at this;exact this
 have b9:=hV (k+1) c9;obtain⟨R,hR⟩:∃R,(l.drop (k+1)).flatMap (pcs set)=R:=⟨_,rfl⟩;rw[hR] at a8 b9
 have a3:∀D,V=D++R→D.length=((l.take (k+1)).flatMap (pcs set)).length:=fun D e=>by
  have:=List.append_cancel_right (b9.symm.trans e)
  rw[this]
 refine Sq ?_;intros;rw[a6];refine Sq ?_;intros;rename_i bx;refine GO.ent (L':=obj bs ft [ae sad set.length sc]::obj bx tLot (ay x0)::[J ((l.take k).flatMap (pcs set)).length,obj bl ft [ae ad l.length c],isl ay 3 ad l,isl ay 3 sad set]) (by simp only[ay];exact ah) ?_;refine GO.ca (yy bs bx sad sc set x0 b7.w hs e3) ?_;rintro _ _⟨i0,rfl,⟨b2,c6,c7⟩,rfl⟩;have b6:set.drop i0=skp x0 set:=vW x0 b2 c6 c7;have b1:=mL x0 hs.sl hs.ok;rw[←b6] at b1;have a9:V=(l.take k).flatMap (pcs set)++(pcz (set.drop i0) x0++R):=by rw[b6];exact a8
 generalize (l.take k).flatMap (pcs set)=D0 at a9;clear b6 c6 c7 a8;refine Sq ?_;intros;refine G.loop (α:=Lot×Nat×List (Lot×Bool)) (fun g=>LotW g.1∧g.2.1≤set.length∧(∀y∈set.drop g.2.1,pzP g.1 y)∧V=g.2.2++(pcz (set.drop g.2.1) g.1++R)) (fun g=>[(0,.func (.yield i) #[] #[]),(1,aq bl),(2,aq bs),(5,aq bx),(6,ac (g.2.1:Int)),(9,ae ad l.length c),(10,ac l.length),(11,ac (k:Int))]) (fun g=>[J g.2.2.length,obj bl ft [ae ad l.length c],obj bs ft [ae sad set.length sc],obj bx tLot (ay g.1),isl ay 3 ad l,isl ay 3 sad set]) (fun g=>set.length - g.2.1) (x0,i0,D0) ⟨b7.w,b2,b1,a9⟩ an (by simp only[ay];exact ah) ?_;clear a9 b1 b2 b7 a6 a4 hd;rintro⟨x,j,D⟩ ⟨d2,hj,hh,a0⟩;dsimp only at d2 hj hh a0 ⊢;have b8:=d2;unfold LotW at b8;have d5:(j:Int).toNat=j:=aD j;have c8:set[j]! = set[(j:Int).toNat]!:=by rw[d5]
 have d3:j<set.length→LotOk set[(j:Int).toNat]!:=fun h=>by rw[←c8];exact hs.ok _ (aL h)
 have b0:j<set.length→set.drop j=set[(j:Int).toNat]!::set.drop (j+1):=fun h=>by rw[fA h,c8]
 simp only[ay];repeat first|refine G.sn 4 ?_|refine bF ?_|intro _|refine bZ ?_
 refine G.d8 (α:=Unit) (fun _=>True) (fun _=>[(0,.func (.yield i) #[] #[]),(1,aq bl),(2,aq bs),(5,aq bx),(6,ac (j:Int)),(9,ae ad l.length c),(10,ac l.length),(11,ac (k:Int)),(50,.bool (dB (0<x.2.2∧j<set.length∧set[(j:Int).toNat]!.1=x.1∧set[(j:Int).toNat]!.2.1<x.2.1+x.2.2)))]) (fun _=>[J D.length,obj bl ft [ae ad l.length c],obj bs ft [ae sad set.length sc],obj bx tLot [ac x.1,ac x.2.1,ac x.2.2],isl ay 3 ad l,isl ay 3 sad set]) ?_ ?_
 ·by_cases c1:0<x.2.2
  case neg =>
   rw[aM (fun q=>c1 q.1)];refine Sq ?_;intros;exact⟨(),trivial,an,Ent.refl _⟩
  by_cases c2:j<set.length
  case neg =>
   rw[aM (fun q=>c2 q.2.1)];refine Sq ?_;intros;exact⟨(),trivial,an,Ent.refl _⟩
  have a1:=d3 c2;unfold LotOk at a1;by_cases c3:set[(j:Int).toNat]!.1=x.1
  case neg =>
   rw[aM (fun q=>c3 q.2.2.1)];refine Sq ?_;intros;exact⟨(),trivial,an,Ent.refl _⟩
  rw[show dB (0<x.2.2∧j<set.length∧set[(j:Int).toNat]!.1=x.1∧set[(j:Int).toNat]!.2.1<x.2.1+x.2.2)=dB (set[(j:Int).toNat]!.2.1<x.2.1+x.2.2) from by rw[eY,eY];exact decide_eq_decide.2 ⟨fun q=>q.2.2.2,fun q=>⟨c1,c2,c3,q⟩⟩];refine Sq ?_;intros;exact⟨(),trivial,an,Ent.refl _⟩
 rintro _ _;by_cases C:0<x.2.2∧j<set.length∧set[(j:Int).toNat]!.1=x.1∧set[(j:Int).toNat]!.2.1<x.2.1+x.2.2
 case neg =>
  rw[aM C];by_cases c1:0<x.2.2
  ·have e1:pcz (set.drop j) x=[(x,false)]:=by
    by_cases c2:j<set.length
    ·rw[b0 c2];exact ow c1 (fun q=>C ⟨c1,c2,q.1,q.2⟩)
    ·rw[bM ab];exact if_pos c1
   rw[e1] at a0;have a5:=a7 D (x,false) R a0;have he:=a3 (D++[(x,false)]) (by rw[a0];simp);rw[ax,aG] at he;refine Sq ?_;intros;refine GO.ent (Ent.at (A:=J D.length) (Ent.refl _)) ?_;((with_reducible apply GO.d7);refine GO.efR (EfR.yield (a5) rfl rfl cT) ag ?_);rintro _ _⟨_,(⟨rfl,rfl⟩|⟨rfl,rfl⟩),hL⟩
   ·simp only[ak,aj] at hL;subst hL;refine Sq ?_;intros;refine⟨k+1,ab,ab,?_,?_⟩
    ·rw[show(((k+1:Nat)):Int)=(k:Int)+1 by omega];exact an
    ·rw[←he];exact ah
   ·simp only[ak,aj] at hL;subst hL;refine Sq ?_;intros;exact KX.d7 av (Ent.d7 (Ent.nil _)) (.inr ⟨D.length,rfl⟩)
  ·have he:=a3 D (by rw[a0,ou c1];rfl);refine Sq ?_;intros;refine⟨k+1,ab,ab,?_,?_⟩
   ·rw[show(((k+1:Nat)):Int)=(k:Int)+1 by omega];exact an
   ·rw[←he];exact ah
 rw[aZ C];obtain⟨c1,c2,c3,c4⟩:=C;have a1:=d3 c2;have d0:=hh set[(j:Int).toNat]! (by rw[b0 c2];exact au);have b5:(set.drop j).Pairwise sl:=(hs.sl.sublist (List.drop_sublist j set));rw[b0 c2] at b5 a0 hh;rw[eu] at b5
 have d4:∀w∈set.drop (j+1),pzP (pz2 x set[(j:Int).toNat]!) w:=fun w hw=>by
  have h1:=b5.1 w hw;have h2:=hs.ok w (gD hw);unfold sl at h1;unfold LotOk at h2 a1;unfold pzP pz2 pzi pzo;dsimp only;omega
 rw[qv ⟨c1,c3,c4⟩] at a0
 have e4:LotW (pz2 x set[(j:Int).toNat]!):=by
  unfold LotOk at a1;unfold pzP at d0;unfold LotW pz2 pzi pzo;dsimp only;omega
 have ho:0≤pzo x set[(j:Int).toNat]!∧pzo x set[(j:Int).toNat]! < x.2.2∧0<pzi x set[(j:Int).toNat]!∧pzi x set[(j:Int).toNat]!≤x.2.2 - pzo x set[(j:Int).toNat]!:=by
  unfold LotOk at a1;unfold pzP at d0;unfold pzi pzo;omega
 have eo:max 0 (set[(j:Int).toNat]!.2.1 - x.2.1)=pzo x set[(j:Int).toNat]!:=rfl;have ei:min (x.2.2 - pzo x set[(j:Int).toNat]!) (set[(j:Int).toNat]!.2.1+set[(j:Int).toNat]!.2.2 - (x.2.1+pzo x set[(j:Int).toNat]!))=pzi x set[(j:Int).toNat]!:=rfl;have e2:pz2 x set[(j:Int).toNat]! = (x.1,x.2.1+pzo x set[(j:Int).toNat]! + pzi x set[(j:Int).toNat]!,x.2.2 - pzo x set[(j:Int).toNat]! - pzi x set[(j:Int).toNat]!):=rfl;unfold LotOk at a1;repeat first|refine G.sn 6 ?_|refine bF ?_|intro _|refine bZ ?_
 refine G.d8 (α:=Unit) (fun _=>True) (fun _=>[(0,.func (.yield i) #[] #[]),(1,aq bl),(2,aq bs),(5,aq bx),(6,ac (j:Int)),(7,ac (pzo x set[(j:Int).toNat]!)),(9,ae ad l.length c),(10,ac l.length),(11,ac (k:Int))]) (fun _=>[J D.length,obj bl ft [ae ad l.length c],obj bs ft [ae sad set.length sc],obj bx tLot [ac x.1,ac x.2.1,ac x.2.2],isl ay 3 ad l,isl ay 3 sad set]) ?_ ?_
 ·rw[←eo];refine Sq ?_;intros;exact⟨(),trivial,an,Ent.refl _⟩
 rintro _ _;obtain⟨o,b4⟩:∃o,pzo x set[(j:Int).toNat]! = o:=⟨_,rfl⟩;obtain⟨q,d1⟩:∃q,pzi x set[(j:Int).toNat]! = q:=⟨_,rfl⟩;rw[b4,d1] at ho e2 ei;rw[b4,d1] at a0;rw[b4];clear eo;obtain⟨e6,f0,f1,f2⟩:=ho;obtain⟨D1,a2⟩:∃D1,D1=D++(if 0<o then[(((x.1,x.2.1,o):Lot),false)] else[]):=⟨_,rfl⟩;repeat first|refine G.sm 7 ?_|refine bF ?_|intro _|refine bZ ?_
 refine G.d8 (α:=Unit) (fun _=>True) (fun _=>[(0,.func (.yield i) #[] #[]),(1,aq bl),(2,aq bs),(5,aq bx),(6,ac (j:Int)),(7,ac o),(9,ae ad l.length c),(10,ac l.length),(11,ac (k:Int))]) (fun _=>[J D1.length,obj bl ft [ae ad l.length c],obj bs ft [ae sad set.length sc],obj bx tLot [ac x.1,ac x.2.1,ac x.2.2],isl ay 3 ad l,isl ay 3 sad set]) ?_ ?_
 ·by_cases h0:0<o
  ·rw[if_pos h0] at a2 a0;have a5:=a7 D ((x.1,x.2.1,o),false) _ a0;refine Sq ?_;intros;refine GO.ent (Ent.at (A:=J D.length) (Ent.refl _)) ?_;((with_reducible apply GO.d7);refine GO.efR (EfR.yield (a5) rfl rfl cT) ag ?_);rintro _ _⟨_,(⟨rfl,rfl⟩|⟨rfl,rfl⟩),hL⟩
   ·simp only[ak,aj] at hL;subst hL;refine Sq ?_;intros;refine⟨(),trivial,an,?_⟩;rw[a2,ax,aG];exact Ent.refl _
   ·simp only[ak,aj] at hL;subst hL;refine Sq ?_;intros;exact KX.d7 av (Ent.d7 (Ent.nil _)) (.inr ⟨D.length,rfl⟩)
  ·rw[if_neg h0,aO] at a2;refine Sq ?_;intros;refine⟨(),trivial,an,?_⟩;rw[a2];exact Ent.refl _
 rintro _ _
 have c0:V=D1++(((x.1,x.2.1+o,q),true)::(pcz (set.drop (j+1)) (pz2 x set[(j:Int).toNat]!)++R)):=by
  rw[a0,a2];simp only[aF,ak]
 have a5:=a7 D1 ((x.1,x.2.1+o,q),true) _ c0;repeat first|refine G.sn 9 ?_|refine bF ?_|intro _|refine bZ ?_
 refine G.d8 (α:=Unit) (fun _=>True) (fun _=>[(0,.func (.yield i) #[] #[]),(1,aq bl),(2,aq bs),(5,aq bx),(6,ac (j:Int)),(8,ac q),(9,ae ad l.length c),(10,ac l.length),(11,ac (k:Int))]) (fun _=>[J D1.length,obj bl ft [ae ad l.length c],obj bs ft [ae sad set.length sc],obj bx tLot [ac x.1,ac (x.2.1+o),ac (x.2.2 - o)],isl ay 3 ad l,isl ay 3 sad set]) ?_ ?_
 ·rw[←ei];refine Sq ?_;intros;exact⟨(),trivial,an,by exact ah⟩
 rintro _ _;refine Sq ?_;intros;refine GO.ent (Ent.at (A:=J D1.length) (Ent.refl _)) ?_;((with_reducible apply GO.d7);refine GO.efR (EfR.yield (a5) rfl rfl cT) ag ?_);rintro _ _⟨_,(⟨rfl,rfl⟩|⟨rfl,rfl⟩),hL⟩
 ·simp only[ak,aj] at hL;subst hL;refine Sq ?_;intros;refine⟨(pz2 x set[(j:Int).toNat]!,j+1,D1++[((x.1,x.2.1+o,q),true)]),⟨e4,by dsimp only;omega,d4,by dsimp only;rw[c0];simp⟩,by dsimp only;omega,?_,?_⟩
  ·dsimp only;rw[show(((j+1:Nat)):Int)=(j:Int)+1 by omega];exact an
  ·dsimp only;rw[ax,aG,e2];simp only[ay];exact ah
 ·simp only[ak,aj] at hL;subst hL;refine Sq ?_;intros;exact KX.d7 av (Ent.d7 (Ent.nil _)) (.inr ⟨D1.length,rfl⟩)
end
section
open Go.V
def pcI(l set:LL1):LL1:=(pcIn (l.flatMap (pcs set))).foldl ba []
def pcO(l set:LL1):LL1:=(gx (l.flatMap (pcs set))).foldl ba []
def Er(l:List (Lot×Bool))(q:Lot×Bool):pcIn (l++[q])=pcIn l++(if q.2=true then[q.1] else[]):=by
 rw[wR];obtain⟨x,b⟩:=q;cases b<;>rfl
def sB(l:List (Lot×Bool))(q:Lot×Bool):gx (l++[q])=gx l++(if q.2=true then[] else[q.1]):=by
 rw[ni];obtain⟨x,b⟩:=q;cases b<;>rfl
def Hq{l set:LL1}(hs:SetOk set)(hw:∀x∈l,LotOk x):(∀q∈l.flatMap (pcs set),LotOk q.1)∧(l.flatMap (pcs set)).length≤l.length*(2*set.length+1):=by
 induction l with
 | nil=>exact⟨(fun q h=>by cases h),by simp⟩
 | cons x l ih =>
  obtain⟨i1,i2⟩:=ih (fun y hy=>hw y (aw _ hy));obtain⟨p1,p2⟩:=Eq hs (hw x au);rw[bB];refine⟨fun q hq=>?_,?_⟩
  ·rcases List.mem_append.1 hq with h|h
   ·exact p1 q h
   ·exact i1 q h
  ·rw[ax,bE,Nat.succ_mul];omega
def Hr(l:List (Lot×Bool)):(pcIn l).length≤l.length∧(gx l).length≤l.length:=by
 unfold pcIn gx;rw[aA,aA];exact⟨List.length_filter_le _ _,List.length_filter_le _ _⟩
def FT{l:List (Lot×Bool)}(h:∀q∈l,LotOk q.1):(∀x∈pcIn l,LotW x)∧∀x∈gx l,LotW x:=by
 constructor
 ·intro x hx;obtain⟨q,hq,rfl⟩:=List.mem_map.1 hx;exact(h q (List.mem_filter.1 hq).1).w
 ·intro x hx;obtain⟨q,hq,rfl⟩:=List.mem_map.1 hx;exact(h q (List.mem_filter.1 hq).1).w
attribute [local irreducible] G GO GP GPW GPK Ev Ef EfR Ent CB GB V.Enters
abbrev Cg:List Stp:=[.ev 0,.ev 1,.ef 2,.ef 3]
def ej{φ ψ:Prop}(k:ψ)(h:Hid ψ→φ:=by intro k;first|refine GO.ci (f:=304) (Hid.out k)|refine GPW.ci (f:=304) (Hid.out k)|refine GO.cf (f:=304) rfl (Hid.out k)|refine GPW.cf (f:=304) rfl (Hid.out k)|refine KX.inA (Hid.out k)):φ:=h ⟨k⟩
def gG{φ ψ:Prop}(k:ψ)(h:Hid ψ→φ:=by intro k;(with_reducible apply G.d7);first|refine G.dr 22 7 Cg (Hid.out k)):φ:=h ⟨k⟩
def ar0{φ ψ:Prop}(k:ψ)(h:Hid ψ→φ:=by intro k;(repeat (first|refine aa ?_|intro zzz|refine gG ?_|refine ej ?_));(repeat revert zzz);exact Hid.out k):φ:=h ⟨k⟩
def pX(ad:OA)(c:Nat)(l:LL1)(sad:OA)(sc:Nat)(set:LL1)(a5:l.length≤4500)(a9:set.length≤4500)(hw:∀x∈l,LotOk x)(hs:SetOk set) :
  Tri ai 288 #[ae ad l.length c,ae sad set.length sc] [isl ay 3 ad l,isl ay 3 sad set] (fun v L'=>∃a0 c1 a1 c2,v=.tuple #[ae a0 (pcI l set).length c1,ae a1 (pcO l set).length c2]∧L' = [osl ay 3 tLot a0 c1 (pcI l set),osl ay 3 tLot a1 c2 (pcO l set)]):=by
 obtain⟨hq,a8⟩:=Hq hs hw;have a3:l.length*(2*set.length+1)≤4500*9001:=Nat.mul_le_mul a5 ab;unfold pcI pcO;have a4:=fun bl bs=>pC bl bs ad c l sad sc set ab ab hw hs;generalize l.flatMap (pcs set)=V at *;refine Tri.bd ?_;refine ar0 ?_;intros;rename_i b4 b5 bx bf;refine G.g9 (a4 bx bf) rfl en326.1 ag ?_ (fun k=>[stkO b4 ((pcIn (V.take k)).foldl ba []),stkO b5 ((gx (V.take k)).foldl ba [])]) ?_ ?_ ?_
 ·intro vs a7;obtain⟨q,_,rfl⟩:=List.mem_map.1 a7;rfl
 ·simp only[ak,aj,bC];rw[show(pcIn []).foldl ba []=[] from rfl,show(gx []).foldl ba []=[] from rfl];refine Ent.trans ?_ (Ent.l7 (none,0) (f:=stkA b4 []) (Ent.refl _));refine Ent.trans ?_ (Ent.append (Ent.refl (stkA b4 [] (none,0))) (Ent.l7 (none,0) (f:=stkA b5 []) (Ent.refl _)));simp only[stkA,cU,ak,aj];refine Ent.trans (Ent.d8 ay 3 tLot) (Ent.trans (Ent.d8 ay 3 tLot) ?_);exact ah
 ·intro k hk;rw[aA] at hk;rw[dY];have a6:V.take (k+1)=V.take k++[V[k]]:=aC hk;have a2:=hq _ (eO hk);obtain⟨l1,l2⟩:=Hr (V.take k);obtain⟨w1,w2⟩:=FT (l:=V.take k) (fun q h=>hq q (cz h));have b0:(V.take k).length≤41000000:=by rw[bg];omega
  have g1:=iR (pcIn (V.take k)) [];have g2:=iR (gx (V.take k)) [];have g3:=kB (l:=[]) (xs:=pcIn (V.take k)) (fun _ h=>by cases h) w1;have g4:=kB (l:=[]) (xs:=gx (V.take k)) (fun _ h=>by cases h) w2;rw[cU] at g1 g2;rw[a6,Er,sB,cB,cB];generalize (pcIn (V.take k)).foldl ba []=T at *;generalize (gx (V.take k)).foldl ba []=R at *;generalize V[k]=q at a2 ⊢;obtain⟨x,b⟩:=q;dsimp only at a2 ⊢;cases b with
  | true =>
   show G _ _ _ ((12,.bool true)::(11,aN (ay x))::_) _ _;rw[if_pos rfl,if_pos rfl];refine G.e7 (f:=stkA b4 T) ?_;rintro⟨a0,c1⟩;simp only[stkA,ak,aj,fF,List.foldl_nil];refine ar0 ?_;intros;refine GO.ent (Ent.at (A:=osl ay 3 tLot a0 c1 T) (Ent.refl _)) ?_;refine GO.ca (uh a0 c1 T x ab g3 a2.w) ?_;rintro _ _⟨a1,c2,rfl,rfl⟩;refine ar0 ?_;intros;refine KX.round ?_;refine Ent.trans ?_ (Ent.l7 (a1,c2) (f:=stkA b4 (ba T x)) (Ent.refl _));simp only[stkA,ak,aj];exact ah
  | false =>
   show G _ _ _ ((12,.bool false)::(11,aN (ay x))::_) _ _;rw[if_neg ag,if_neg ag];refine G.ent Ent.swap ?_;refine G.e7 (f:=stkA b5 R) ?_;rintro⟨a0,c1⟩;simp only[stkA,ak,aj,fF,List.foldl_nil];refine ar0 ?_;intros;refine GO.ent (Ent.at (A:=osl ay 3 tLot a0 c1 R) (Ent.refl _)) ?_;refine GO.ca (uh a0 c1 R x ab g4 a2.w) ?_;rintro _ _⟨a1,c2,rfl,rfl⟩;refine ar0 ?_;intros;refine KX.round ?_;refine Ent.trans ?_ (Ent.swap (A:=stkO b5 (ba R x)));refine Ent.trans ?_ (Ent.l7 (a1,c2) (f:=stkA b5 (ba R x)) (Ent.refl _));simp only[stkA,ak,aj];exact ah
 ·rw[aA,cd];generalize (pcIn V).foldl ba []=T;generalize (gx V).foldl ba []=R;simp only[aO];refine KX.d8 (KX.l0 ?_);refine G.e7 (f:=stkA b4 T) ?_;rintro⟨a0,c1⟩;refine G.ent (L':=stkO b5 R::stkA b4 T (a0,c1)) (Ent.perm (by simp only[stkA,ak,aj];exact(List.Perm.cons _ (List.Perm.swap _ _ _)).trans (List.Perm.swap _ _ _))) ?_;refine G.e7 (f:=stkA b5 R) ?_;rintro⟨a1,c2⟩;simp only[stkA,ak,aj];refine ar0 ?_;intros;refine KX.d7 (vs:=[ae a0 T.length c1,ae a1 R.length c2]) (ResOk.d7 rfl (ResOk.d7 rfl ResOk.nil)) ?_ ⟨a0,c1,a1,c2,rfl,rfl⟩;exact ah
def ar1{φ ψ:Prop}(k:ψ)(h:Hid ψ→φ:=by intro k;(repeat (first|refine aa ?_|intro zzz|refine ej ?_));(repeat revert zzz);exact Hid.out k):φ:=h ⟨k⟩
def Bn(ad:OA)(c:Nat)(l:LL1)(sad:OA)(sc:Nat)(set:LL1)(a3:l.length≤4500)(a4:set.length≤4500)(hw:∀x∈l,LotOk x)(hs:SetOk set) :
  Tri ai 303 #[ae ad l.length c,ae sad set.length sc] [isl ay 3 ad l,isl ay 3 sad set] (rtQ (.bool (dB (gx (l.flatMap (pcs set))=[]))) ([])):=by
 have a0:=fun bl bs=>pC bl bs ad c l sad sc set ab ab hw hs;generalize l.flatMap (pcs set)=V at *;refine Tri.bd ?_;refine ar1 ?_;intros;rename_i b4 bx bf;refine G.g9 (a0 bx bf) rfl en326.1 ag ?_ (fun k=>[dy (gx (V.take k)=[]),obj b4 4 [.bool false]]) ?_ ?_ ?_
 ·intro vs a2;obtain⟨q,_,rfl⟩:=List.mem_map.1 a2;rfl
 ·simp only[ak,aj,bC];refine Ent.trans ?_ (Ent.pure rfl (Ent.refl _));exact ah
 ·intro k hk;rw[aA] at hk;rw[dY];have a1:V.take (k+1)=V.take k++[V[k]]:=aC hk;have hV:V=V.take k++(V[k]::V.drop (k+1)):=by rw[←dO hk,dq]
  generalize V[k]=q at *;obtain⟨x,b⟩:=q;refine G.e9 ?_;intro hp;cases b with
  | true =>
   show G _ _ _ ((11,.bool true)::_) _ _;refine ar1 ?_;intros;refine KX.round ?_;rw[a1,sB,hp];refine Ent.trans ?_ (Ent.pure rfl (Ent.refl _));exact Ent.refl _
  | false =>
   show G _ _ _ ((11,.bool false)::_) _ _
   have hn:¬gx V=[]:=fun h=>by
    rw[hV,ni] at h;have h2:=(List.append_eq_nil_iff.1 h).2;cases h2
   refine ar1 ?_;intros;refine KX.m5 ?_;simp only[aO];refine ar1 ?_;intros;refine KX.d7 (vs:=[.bool false]) (ResOk.d7 rfl ResOk.nil) (Ent.nil _) ⟨by rw[aM hn];rfl,rfl⟩
 ·rw[aA,cd];simp only[aO];refine KX.d8 (KX.l0 ?_);refine G.e9 ?_;intro hp;rw[aZ hp];refine ar1 ?_;intros;exact KX.d7 (vs:=[.bool true]) (ResOk.d7 rfl ResOk.nil) (Ent.nil _) ⟨rfl,rfl⟩
end
section
open Go.V
def oy{zs:LL1}(hs:SetOk zs):∀{l:LL1},(∀x∈l,LotOk x)→gx (l.flatMap (pcs zs))=l.flatMap (fP zs)
 | [],_=>rfl
 | x::l,h=>by
  rw[bB,bB,ni,Ho hs (h x au),oy hs (fun y hy=>h y (aw _ hy))]
def pA{ps zs:LL1}(hp:∀y∈ps,LotOk y)(hz:∀y∈zs,LotOk y)(h:∀f a,hasU ps f a↔hasU zs f a):∀{l:LL1},(∀x∈l,LotOk x)→l.flatMap (fP zs)=l.flatMap (fP ps)
 | [],_=>rfl
 | x::l,hl=>by
  rw[bB,bB,Ej hp hz h (hl x au),pA hp hz h (fun y hy=>hl y (aw _ hy))]
def DN{ps own ys:LL1}(h1:gm ps)(ha:Apart ps)(h2:gm own)(ho:Apart own)(hy:eX hdC own ys):gx (ps.flatMap (pcs (zset ys)))=[]↔iy ps own:=by
 obtain⟨s1,_,_,s4⟩:=lz hy h2.1;have hu:=fun f a=>(Bg s1.ok h2.1 (s4 ho) f a).symm;rw[oy s1 h1.1,pA h2.1 s1.ok hu h1.1,nV h1 ha h2 ho];have e:ps.flatMap (fP own)=own.foldl subL ps:=(lL own ps).symm
 have a0:∀x∈ps.flatMap (fP own),LotOk x:=fun x hx=>by
  obtain⟨y,hy,hx⟩:=List.mem_flatMap.1 hx;exact(oo h2.1 (h1.1 y hy)).1 x hx
 rw[e] at a0 ⊢;have a1:=tR h2.1 h1.1 ho;rw[←a1];constructor
 ·intro h;rw[h,iC]
 ·intro h;cases hm:own.foldl subL ps with
  | nil=>rfl
  | cons x l =>
   rw[hm] at h a0;have:=jO a0 (Nat.zero_lt_succ l.length)
   omega
def Bm{s ps ys:LL1}(hs:∀x∈s,LotOk x)(hp:∀x∈ps,LotOk x)(ha:Apart ps)(hy:eX hdC ps ys):pcO s (zset ys)=fq s ps:=by
 obtain⟨s1,_,_,s4⟩:=lz hy hp;have hu:=fun f a=>(Bg s1.ok hp (s4 ha) f a).symm;unfold pcO fq;rw[oy s1 hs,pA hp s1.ok hu hs,oI]
attribute [local irreducible] G GO GP GPW GPK Ev Ef EfR Ent CB GB V.Enters
def eh{φ ψ:Prop}(k:ψ)(h:Hid ψ→φ:=by intro k;first|refine GO.ci (f:=267) (Hid.out k)|refine GPW.ci (f:=267) (Hid.out k)|refine GO.cf (f:=267) rfl (Hid.out k)|refine GPW.cf (f:=267) rfl (Hid.out k)|refine KX.inA (Hid.out k)):φ:=h ⟨k⟩
def ar2{φ ψ:Prop}(k:ψ)(h:Hid ψ→φ:=by intro k;(repeat (first|refine aa ?_|intro zzz|refine eh ?_));(repeat revert zzz);exact Hid.out k):φ:=h ⟨k⟩
def xb{L:LH}(ad:OA)(n c:Nat)(xs:LL1)[Rds L ad Lot ay 3 xs](hn:n=xs.length)(hm:n≤9223372036854775807) :
  Tri ai 261 #[ae ad n c] L (rtQ (.bool (dB (gm xs))) L):=by
 subst hn;refine Tri.bd ?_;by_cases hb:xs.length≤4096
 case neg =>
  rw[aM (fun q:gm xs=>hb q.2)];refine ar2 ?_;intros;exact KX.en ⟨rfl,rfl⟩
 refine ar2 ?_;intros;refine G.loop (α:=Nat) (fun i=>i≤xs.length∧∀k,k<i→LotOk xs[k]!) (fun i=>[(0,ae ad xs.length c),(8,ae ad xs.length c),(9,ac xs.length),(10,ac (i:Int))]) (fun _=>L) (fun i=>xs.length - i) 0 ⟨az _,fun k hk=>absurd hk (dU k)⟩ an (Ent.refl _) ?_;rintro i ⟨hi,a4⟩;by_cases a6:i<xs.length
 case neg =>
  have a1:∀x∈xs,LotOk x:=fun x hx=>by
   obtain⟨k,hk,e⟩:=List.mem_iff_getElem.1 hx;have h2:=a4 k ab;rw[getElem!_of hk,e] at h2;exact h2
  rw[aZ (show gm xs from⟨a1,hb⟩)];refine ar2 ?_;intros;exact KX.en ⟨rfl,rfl⟩
 have a5:(i:Int).toNat=i:=aD i;have a2:=aL a6
 have a3:LotOk xs[i]!→∀k,k<i+1→LotOk xs[k]!:=fun h k hk=>by
  by_cases e:k=i
  ·rw[e];exact h
  ·exact a4 k ab
 have a0:¬LotOk xs[i]!→¬gm xs:=fun h q=>h (q.1 _ a2);rw[show xs[i]! = xs[(i:Int).toNat]! by rw[a5]] at a3 a0;by_cases o1:0≤xs[(i:Int).toNat]!.1
 case neg =>
  rw[aM (a0 (fun q=>o1 q.1))];refine ar2 ?_;intros;exact KX.en ⟨rfl,rfl⟩
 by_cases o2:0≤xs[(i:Int).toNat]!.2.1
 case neg =>
  rw[aM (a0 (fun q=>o2 q.2.1))];refine ar2 ?_;intros;exact KX.en ⟨rfl,rfl⟩
 by_cases o3:xs[(i:Int).toNat]!.2.1≤1099511627776
 case neg =>
  rw[aM (a0 (fun q=>o3 q.2.2.1))];refine ar2 ?_;intros;exact KX.en ⟨rfl,rfl⟩
 by_cases o4:1≤xs[(i:Int).toNat]!.2.2
 case neg =>
  rw[aM (a0 (fun q=>o4 q.2.2.2.1))];refine ar2 ?_;intros;exact KX.en ⟨rfl,rfl⟩
 by_cases o5:xs[(i:Int).toNat]!.2.2≤1099511627776 - xs[(i:Int).toNat]!.2.1
 case neg =>
  rw[aM (a0 (fun q=>o5 q.2.2.2.2))];refine ar2 ?_;intros;rw[aM o5];refine ar2 ?_;intros;exact KX.en ⟨rfl,rfl⟩
 refine ar2 ?_;intros;rw[aZ o5];refine ar2 ?_;intros;refine⟨i+1,⟨ab,a3 ⟨o1,o2,o3,o4,o5⟩⟩,ab,?_,by exact ah⟩;rw[aU i];exact an
def xj{L:LH}(pad:OA)(pc:Nat)(ps:LL1)(sad:OA)(sc:Nat)(own:LL1)(h1:gm ps)(ha:Apart ps)(h2:gm own)(ho:Apart own) :
  Tri ai 285 #[ae pad ps.length pc,ae sad own.length sc] (isl ay 3 pad ps::isl ay 3 sad own::L) (rtQ (.bool (dB (iy ps own))) (isl ay 3 pad ps::isl ay 3 sad own::L)):=by
 refine Tri.bd ?_;refine IF ?_;intros;refine GO.cr (hD pad ps.length pc ps rfl h1.2 h1.1) ?_;refine IF ?_;intros;refine GO.cr (hD sad own.length sc own rfl h2.2 h2.1) ?_;refine IF ?_;intros;refine GO.ca (jK sad own.length sc own rfl (by have:=h2.2;omega) h2.1) ?_;rintro _ _⟨a0,zc,ys,rfl,a1,rfl⟩;obtain⟨s1,s2,_,_⟩:=lz a1 h2.1;refine IF ?_;intros;refine GO.ent (L':=[isl ay 3 pad ps,isl ay 3 a0 (zset ys)]++(isl ay 3 pad ps::isl ay 3 sad own::L)) ((Ent.at (A:=isl ay 3 pad ps) (Ent.dup (bI _ _ _ _).pers)).trans ((Ent.at (A:=osl ay 3 tLot a0 zc (zset ys)) Ent.freezeSl).trans (by simp only[ak,aj];exact ah))) ?_;simp only[ak,aj];(first|refine GO.ef (Ef.call (Bn pad pc ps a0 zc (zset ys) (by have:=h1.2;omega) (by have:=h2.2;omega) h1.1 s1) rfl cT) ag ?_);rintro _ _⟨_,⟨rfl,rfl⟩,hL⟩;simp only[ak,aj] at hL;subst hL;refine IF ?_;intros;refine KX.d7 av (Ent.refl _) ⟨?_,rfl⟩;rw[show dB (gx (ps.flatMap (pcs (zset ys)))=[])=dB (iy ps own) by rw[eY,eY];exact decide_eq_decide.2 (DN h1 ha h2 ho a1)];rfl
def vg{L:LH}(sad:OA)(sc:Nat)(s:LL1)(pad:OA)(pc:Nat)(ps:LL1)(h1:gm ps)(ha:Apart ps)(h2:gm s) :
  Tri ai 286 #[ae sad s.length sc,ae pad ps.length pc] (isl ay 3 pad ps::isl ay 3 sad s::L) (fun v L'=>∃a1 c',v=ae a1 (fq s ps).length c'∧L' = osl ay 3 tLot a1 c' (fq s ps)::isl ay 3 pad ps::isl ay 3 sad s::L):=by
 refine Tri.bd ?_;refine IF ?_;intros;refine GO.cr (hD sad s.length sc s rfl h2.2 h2.1) ?_;refine IF ?_;intros;refine GO.cr (hD pad ps.length pc ps rfl h1.2 h1.1) ?_;refine IF ?_;intros;refine GO.ca (jK pad ps.length pc ps rfl (by have:=h1.2;omega) h1.1) ?_;rintro _ _⟨a0,zc,ys,rfl,a2,rfl⟩;obtain⟨s1,s2,_,_⟩:=lz a2 h1.1;refine IF ?_;intros;refine GO.ent (L':=[isl ay 3 sad s,isl ay 3 a0 (zset ys)]++(isl ay 3 pad ps::isl ay 3 sad s::L)) ((Ent.at (A:=isl ay 3 sad s) (Ent.dup (bI _ _ _ _).pers)).trans ((Ent.at (A:=osl ay 3 tLot a0 zc (zset ys)) Ent.freezeSl).trans (by simp only[ak,aj];exact ah))) ?_;simp only[ak,aj];(first|refine GO.ef (Ef.call (pX sad sc s a0 zc (zset ys) (by have:=h2.2;omega) (by have:=h1.2;omega) h2.1 s1) rfl cT) ag ?_);rintro _ _⟨_,⟨a4,c1,a3,c2,rfl,rfl⟩,hL⟩;simp only[ak,aj] at hL;subst hL;rw[Bm h2.1 h1.1 ha a2];refine IF ?_;intros;exact KX.en ⟨a3,c2,rfl,rfl⟩
end
section
open Go.V
structure ChG where
 cs:Nat
 ct:Nat
 ci:Nat
 cr:Nat
 stk:List ((Int×Int)×Stk)
 tot:List (Int×Int)
 imp:List (Int×Stk)
 ret:List (Int×Stk)
 flows:List FlV
 fad:OA
 fcap:Nat
 sunk:List Int
 kad:OA
 kcap:Nat
abbrev cw(b:Nat)(s:StV)(z:ChG):LV:=[aq b,ac s.id,ac s.kind,ac s.actor,ac s.tick,ac s.rule,ac s.times,ae s.mad s.moves.length s.mcap,.map (some z.cs),.map (some z.ct),.map (some z.ci),.map (some z.cr),ae z.fad z.flows.length z.fcap,ae z.kad z.sunk.length z.kcap]
abbrev chgL(b bc:Nat)(s:StV)(z:ChG)(L:LH):LH :=
 obj bc tCh (cw b s z)::gmap kvP Stk.v z.cs z.stk::gmap kvI encN z.ct z.tot::gmap kvI Stk.v z.ci z.imp::gmap kvI Stk.v z.cr z.ret::osl bT 11 dz z.fad z.fcap z.flows::osl (encZ .i64) 1 tInt z.kad z.kcap z.sunk::allP (fun p:(Int×Int)×Stk=>stkP p.2) z.stk::allP flP z.flows::allP (fun p:Int×Stk=>stkP p.2) z.imp::allP (fun p:Int×Stk=>stkP p.2) z.ret::L
def uOf{κ:Type}[DecidableEq κ](z x:List (κ×Stk))(k:κ):Stk:=(glk z k).getD (eU x k)
def qn{κ:Type}[DecidableEq κ]{z x:List (κ×Stk)}(k:κ){L:LH}:Ent (allP (fun p:κ×Stk=>stkP p.2) z::allP (fun p:κ×Stk=>stkP p.2) x::L) (stkP (uOf z x k)::allP (fun p:κ×Stk=>stkP p.2) z::allP (fun p:κ×Stk=>stkP p.2) x::L):=by
 unfold uOf;cases h:glk z k with
 | none=>exact(Ent.d7 (na k)).trans Ent.swap
 | some s=>exact Ent.d9 (f:=fun p:κ×Stk=>stkP p.2) (x:=(k,s)) (jl h)
def lG{κ:Type}[DecidableEq κ]{m:List (κ×Stk)}{k:κ}{s:Stk}{L:LH}:Ent (stkP s::allP (fun p:κ×Stk=>stkP p.2) m::L) (allP (fun p:κ×Stk=>stkP p.2) (gins m k s)::L) :=
 (Ent.g9 (f:=fun p:κ×Stk=>stkP p.2) (fun p=>nL p.2) (x:=(k,s)) (l:=m)).trans (Ent.l6 (l':=gins m k s) oG)
def kI{κ:Type}[DecidableEq κ]{z x:List (κ×Stk)}{k q:κ}{s:Stk}:uOf (gins z k s) x q=if q=k then s else uOf z x q:=by
 unfold uOf;rw[jQ];split<;>rfl
structure SetS (g:Int→Stk) (l:LL1):Prop where
 ok:∀f,SetOk (g f).lots
 cap:∀f,(g f).lots.length≤(g f).cap
 len:∀f,(g f).lots.length≤l.length
 ov:∀f t,LotOk t→t.1=f→OV (g f).lots t=OV (ofF l f) t
def vY{g:Int→Stk}{l:LL1}(h:SetS g l)(hl:∀y∈l,LotOk y){p:Lot}(hp:LotOk p):(∃y∈(g p.1).lots,¬apart y p)↔∃y∈ofF l p.1,ovP p y:=by
 rw[←tg (h.ok p.1).ok hp,h.ov p.1 p hp rfl,tg (fun y hy=>hl y (ofF_mem.1 hy).1) hp];constructor
 ·rintro⟨y,hy,hn⟩;have:=(ofF_mem.1 hy).2
  refine⟨y,hy,?_⟩;unfold apart at hn;unfold ovP;omega
 ·rintro⟨y,hy,hn⟩;have:=(ofF_mem.1 hy).2
  refine⟨y,hy,?_⟩;unfold ovP at hn;unfold apart;omega
def AK{set:LL1}(hs:SetOk set){p:Lot}(hp:LotOk p):0<(pcI [p] set).length↔∃y∈set,¬apart y p:=by
 rw[←HS hs hp];have e:pcI [p] set=(pcIn (pcs set p)).foldl ba []:=by unfold pcI;rw[kG]
 rw[e]
 have hw:∀x∈pcIn (pcs set p),1≤x.2.2:=fun x hx=>by
  obtain⟨q,hq,rfl⟩:=List.mem_map.1 hx;have:=(Eq hs hp).1 q (List.mem_filter.1 hq).1
  unfold LotOk at this;omega
 generalize pcIn (pcs set p)=P at hw;cases P with
 | nil=>exact⟨fun h=>absurd h ag,fun h=>absurd rfl h⟩
 | cons x P =>
  have h1:=hw x au;have hx:ba [] x=[x]:=by unfold ba;rw[if_neg ab,if_neg (fun q=>q.1 rfl)];rfl
  have a0:∀(P l:LL1),0<l.length→0<(P.foldl ba l).length:=by
   intro P;induction P with
   | nil=>intro l h;exact h
   | cons y P ih =>
    intro l h;refine ih _ ?_;unfold ba;split
    ·exact h
    ·split
     ·rw[bJ];exact h
     ·rw[ax];omega
  refine⟨fun _ h=>(by cases h),fun _=>?_⟩;show 0<(P.foldl ba (ba [] x)).length;rw[hx];exact a0 P [x] (by rw[aG];exact Nat.one_pos)
def vZ{g:Int→Stk}{l:LL1}(h:SetS g l)(hl:∀y∈l,LotOk y){p:Lot}(hp:LotOk p)(hn:¬ ∃y∈(g p.1).lots,¬apart y p){ys:LL1}(hy:eX hdC ((g p.1).lots++[p]) ys){g' : Int→Stk}(h1:(g' p.1).lots=zset ys)(hc:(zset ys).length≤(g' p.1).cap)(h2:∀f,f≠p.1→g' f=g f):SetS g' (l++[p]):=by
 have a1:∀x∈(g p.1).lots++[p],LotOk x:=fun x hx=>by
  rcases List.mem_append.1 hx with q|q
  ·exact(h.ok p.1).ok x q
  ·rw[List.mem_singleton.1 q];exact hp
 obtain⟨s1,s2,_,s4⟩:=lz hy a1;have ha:Apart ((g p.1).lots++[p]):=apart_snoc_iff.2 ⟨vV (h.ok p.1).sl,fun y hq=>Classical.byContradiction fun r=>hn ⟨y,hq,r⟩⟩;have a0:=h.len;refine⟨fun f=>?_,fun f=>?_,fun f=>?_,fun f t ht hf=>?_⟩
 ·by_cases e:f=p.1
  ·rw[e,h1];exact s1
  ·rw[h2 f e];exact h.ok f
 ·by_cases e:f=p.1
  ·rw[e,h1];exact hc
  ·rw[h2 f e];exact h.cap f
 ·rw[ax,aG];by_cases e:f=p.1
  ·rw[e,h1];have:=a0 p.1
   rw[ax,aG] at s2;omega
  ·rw[h2 f e];have:=a0 f
   omega
 ·rw[rv];by_cases e:f=p.1
  ·rw[e,h1,s4 ha t ht,gz,jh,if_pos rfl,gz,jh,h.ov p.1 t ht (hf.trans e)]
  ·rw[h2 f e,if_neg (fun q=>e q.symm)];exact h.ov f t ht hf
def FM:SetS (fun _=>⟨none,0,[]⟩) []:=⟨fun _=>⟨(fun y h=>by cases h),.nil⟩,fun _=>aI _,fun _=>aI _,fun _ _ _ _=>rfl⟩
attribute [local irreducible] G GO GP GPW GPK GF GE Ev Ef EfR Ent CB GB V.Enters
def rU{L R1 R2:LH}{mz mx:Nat}{z x:List (Int×Stk)}[a0:PickG L mz Int Stk kvI Stk.v z R1][a1:PickG L mx Int Stk kvI Stk.v x R2](f:Int) :
  Tri ai 287 #[.map (some mz),.map (some mx),ac f] L (rtQ ((uOf z x f).v) L):=by
 refine Tri.bd ?_;refine IF ?_;intros;refine GO.ev (Ev.m6 rfl rfl) ag ?_;cases h:@List.lookup _ _ instBEqOfDecidableEq f z with
 | some k =>
  simp only[eZ,fY,Option.isSome_some];refine IF ?_;intros;refine KX.d7 av ah ⟨?_,rfl⟩;unfold uOf glk;rw[h];rfl
 | none =>
  simp only[ez,dW,Option.isSome_none];refine IF ?_;intros;refine GO.ev (Ev.d8 rfl rfl) ag ?_;rw[nM];refine IF ?_;intros;refine KX.d7 av ah ⟨?_,rfl⟩;unfold uOf glk;rw[h];rfl
end
section
open Go.V
attribute [local irreducible] G GO GP GPW GPK GF GE Ev Ef EfR Ent CB GB V.Enters
abbrev Cf:=ar7 [.ef 13,.ev 14]
def cI{φ ψ:Prop}(k:ψ)(h:Hid ψ→φ:=by intro k;(with_reducible apply G.d7);first|refine G.dr 71 7 Cf (Hid.out k)):φ:=h ⟨k⟩
def SM{φ ψ:Prop}(k:ψ)(h:Hid ψ→φ:=by intro k;(repeat (first|refine aa ?_|intro zzz|refine cI ?_));(repeat revert zzz);exact Hid.out k):φ:=h ⟨k⟩
def Du{L:LH}(b bc:Nat)(sh:Int)(x:LedX)(s:StV)(z:ChG)(l:LL1)(hm:SetS (uOf z.imp x.imp) l)(hl:l.length≤2000)(d0:∀y∈l,LotOk y)(m:MvV)[hr:Rds L m.pad Lot ay 3 m.m.parts](hp:∀p∈m.m.parts,LotOk p)(hb:∀p∈m.m.parts,p.1≤9223372036854775807)(d3:m.m.parts.length≤2000) :
  Tri ai 265 #[aq bc,aN (aT m)] (chgL b bc s z (ledL b sh x L)) (fun v L'=>∃u,v=ac (impG sh m.m.parts l)∧(impG sh m.m.parts l=0→SetS (uOf u x.imp) (l++m.m.parts))∧L' = chgL b bc s { z with imp:=u } (ledL b sh x L)):=by
 obtain⟨⟨frm,to,item,mn,parts⟩,pad,pcap⟩:=m;dsimp only at hr hp hb d3 ⊢;refine Tri.bd (args:=[aq bc,aN (aT ⟨⟨frm,to,item,mn,parts⟩,pad,pcap⟩)]) ?_;simp only[aT,chgL,cw,ledL,bS];refine SM ?_;intros;rename_i b3;refine G.loop (α:=Nat×List (Int×Stk)) (fun g=>g.1≤parts.length∧SetS (uOf g.2 x.imp) (l++parts.take g.1)∧impG sh parts l=impG sh (parts.drop g.1) (l++parts.take g.1)) (fun g=>[(0,aq bc),(12,ae pad parts.length pcap),(13,ac parts.length),(14,ac (g.1:Int))]) (fun g=>chgL b bc s { z with imp:=g.2 } (ledL b sh x (L))) (fun g=>parts.length - g.1) (0,z.imp) ⟨az _,by rw[bC,aO];exact hm,by rw[bC,aO];rfl⟩ an (by(try simp only[chgL,cw,ledL,bS]);exact ah) ?_;rintro⟨i,mp⟩ ⟨hi,a3,hg⟩;dsimp only at hi a3 hg ⊢;by_cases b0:i<parts.length
 case neg =>
  rw[bM ab,aB ab] at hg;rw[aB ab] at a3;have c8:impG sh parts l=0:=hg;rw[c8];(try simp only[chgL,cw,ledL,bS]);refine SM ?_;intros;refine KX.d7 av ?_ ⟨mp,rfl,fun _=>a3,rfl⟩;(try simp only[chgL,cw,ledL,bS]);exact ah
 have c9:(i:Int).toNat=i:=aD i;have d1 : (i:Int).toNat<parts.length:=ab;have e1:parts[(i:Int).toNat]! = parts[i]!:=by rw[c9]
 have b4:l++parts.take (i+1)=l++parts.take i++[parts[(i:Int).toNat]!]:=by rw[e1,aC b0,getElem!_of b0,aF]
 have d2:(l++parts.take i).length≤4000:=by rw[ax,bg];omega
 have a9:∀y∈l++parts.take i,LotOk y:=fun y hy=>by
  rcases List.mem_append.1 hy with q|q
  ·exact d0 y q
  ·exact hp y (cz q)
 have c5:=hb _ (aL b0);have a4:=hp _ (aL b0);rw[←e1] at c5 a4;rw[fA b0,pL,←e1] at hg;rw[←b4] at hg;have b8:impG sh parts l≠0→(impG sh parts l=0→SetS (uOf mp x.imp) (l++parts)):=fun h q=>absurd q h;obtain⟨p,c6⟩:∃p,parts[(i:Int).toNat]! = p:=⟨_,rfl⟩;rw[c6] at c5 a4 hg b4;clear e1;have b9:=a4;unfold LotOk at b9;have a8:=vY a3 a9 a4;(try simp only[chgL,cw,ledL,bS]);refine SM ?_;intros;rw[c6];simp only[ay];refine SM ?_;intros;by_cases c1:p.1 / 4294967296=sh
 ·rw[if_pos (.inl c1)] at hg;rw[hg] at b8 ⊢;refine SM ?_;intros;exact KX.d7 av (by(try simp only[chgL,cw,ledL,bS]);exact ah) ⟨mp,rfl,fun h=>absurd h ag,rfl⟩
 by_cases c2:11<p.1 / 4294967296
 ·rw[if_pos (.inr c2)] at hg;rw[hg] at b8 ⊢;refine SM ?_;intros;exact KX.d7 av (by(try simp only[chgL,cw,ledL,bS]);exact ah) ⟨mp,rfl,fun h=>absurd h ag,rfl⟩
 rw[if_neg (fun q=>q.elim c1 c2)] at hg;refine SM ?_;intros;refine GPW.cr (rU (z:=mp) (x:=x.imp) p.1) ?_;have b2:=a3.ok p.1;have a7:=a3.cap p.1;have d5:=a3.len p.1;have a6:=fun (h:¬ ∃y∈(uOf mp x.imp p.1).lots,¬apart y p) (ys:LL1) (hy:eX hdC ((uOf mp x.imp p.1).lots++[p]) ys) (s' : Stk) (h1:s'.lots=zset ys) (h2:(zset ys).length≤s'.cap)=>vZ (g':=uOf (gins mp p.1 s') x.imp) a3 a9 a4 h hy (by rw[kI,if_pos rfl,h1]) (by rw[kI,if_pos rfl];exact h2) (fun f e=>by rw[kI,if_neg e]);have b1:=fun M:LH=>qn (z:=mp) (x:=x.imp) p.1 (L:=M);generalize uOf mp x.imp p.1=sk at *;obtain⟨sad,scap,a0⟩:=sk;dsimp only at b2 a7 d5 a6 a8
 have c7:∀y∈a0++[p],LotOk y:=fun y hy=>by
  rcases List.mem_append.1 hy with q|q
  ·exact b2.ok y q
  ·rw[List.mem_singleton.1 q];exact a4
 simp only[Stk.v];refine SM ?_;intros;rename_i b6 bl;refine GO.ent (L':=[isl ay 3 (some ⟨bl,0,none⟩) [p],isl ay 3 sad a0]++(isl ay 3 sad a0::chgL b bc s { z with imp:=mp } (ledL b sh x (obj b6 tLot (ay p)::L)))) ?_ ?_
 ·refine(Ent.at (A:=obj bl tLot [ac p.1,ac p.2.1,ac p.2.2]) (Ent.e9 (enc:=ay) (sz:=3) (xs:=[p]) (n:=1) rfl rfl (fun _ _=>rfl) ag)).trans (Ent.freezeSl.trans ?_);refine(Ent.at (A:=allP (fun p:Int×Stk=>stkP p.2) mp) (Ent.refl _)).trans ?_;refine(Ent.d7 (Ent.at (A:=allP (fun p:Int×Stk=>stkP p.2) x.imp) (Ent.refl _))).trans ?_;refine(b1 _).trans ?_;refine Ent.trans (show Ent (stkP ⟨sad,scap,a0⟩::_) (isl ay 3 sad a0::_) from Ent.refl _) ?_;refine(Ent.dup (bI _ _ _ _).pers).trans ?_;simp only[chgL,cw,ledL,bS,ay,ak,aj];exact ah
 simp only[ak,aj];(first|refine GO.ef (Ef.call (pX (some ⟨bl,0,none⟩) 1 [p] sad scap a0 (by rw[aG];decide) ab (fun y hy=>by rw[List.mem_singleton.1 hy];exact a4) b2) rfl cT) ag ?_);rintro _ _⟨_,⟨d6,e2,e0,e3,rfl,rfl⟩,hL⟩;simp only[ak,aj] at hL;subst hL;have c0:=AK b2 a4;generalize hpi:(pcI [p] a0).length=pn at c0;refine SM ?_;intros;by_cases c3:∃y∈a0,¬apart y p
 ·have d4:=c0.2 c3;rw[if_pos (a8.1 c3)] at hg;rw[hg] at b8 ⊢;(try simp only[chgL,cw,ledL,bS]);refine SM ?_;intros;exact KX.d7 av (by(try simp only[chgL,cw,ledL,bS]);exact ah) ⟨mp,rfl,fun h=>absurd h ag,rfl⟩
 have d4:¬0<pn:=fun q=>c3 (c0.1 q);rw[if_neg (fun q=>c3 (a8.2 q))] at hg;repeat first|refine G.sn 11 ?_|refine bF ?_|intro _|refine cI ?_
 refine G.ent (L':=asl ay 3 tLot sad a0.length a0::obj b6 tLot [ac p.1,ac p.2.1,ac p.2.2]::chgL b bc s { z with imp:=mp } (ledL b sh x (L))) ?_ ?_
 ·refine(Ent.at (A:=isl ay 3 sad a0) (Ent.n5 (E:=tLot) (by simp only[maxLen];omega))).trans ?_;(try simp only[chgL,cw,ledL,bS,ay]);exact ah
 ·skip;simp only[chgL,cw,ledL,bS];refine G.f8 mixed krStd0 ?_;refine GF.evP (i:=0) rfl krStd0 (Ev.move rfl) ag ?_;refine GF.evP (i:=1) rfl krStd0 (Ev.nilCheck rfl) ag ?_;refine GF.evP (i:=2) rfl krStd0 (by first|exact Ev.fieldAddr rfl|exact Ev.f8 rfl) ag ?_;refine GF.evL (i:=3) rfl krStd0 (by first|exact Ev.d9 rfl rfl|exact Ev.e7 rfl aJ|exact Ev.e9 rfl rfl|exact Ev.e8 rfl ab|exact Ev.d7 rfl ab ag rfl) ag ?_;refine GF.evP (i:=4) rfl krStd0 (by first|exact Ev.fieldAddr rfl|exact Ev.f8 rfl) ag ?_;refine GF.evL (i:=5) rfl krStd0 (by first|exact Ev.d9 rfl rfl|exact Ev.e7 rfl aJ|exact Ev.e9 rfl rfl|exact Ev.e8 rfl ab|exact Ev.d7 rfl ab ag rfl) ag ?_;refine GF.evP (i:=6) rfl krStd0 (Ev.move rfl) ag ?_;refine GF.evL (i:=8) rfl krStd0 (by first|exact Ev.d9 rfl rfl|exact Ev.e7 rfl aJ|exact Ev.e9 rfl rfl|exact Ev.e8 rfl ab|exact Ev.d7 rfl ab ag rfl) ag ?_;refine GF.d7 7 9 krStd0 ?_ ?_
  ·refine GE.ef rfl (Ef.d9 (jw sad a0.length scap a7) rfl) ag ?_;rintro _ _⟨rfl,rfl⟩;refine⟨(by intro pe hp;simp only[bh,aH,or_false] at hp;rcases hp with rfl|rfl|rfl<;>first|exact Ev.d9 rfl rfl|exact Ev.e7 rfl aJ|exact Ev.e9 rfl rfl),?_⟩;refine GF.plan [.ef 9,.ef 10,.ef 11,.ef 12] krStd0 rfl ?_;refine SM ?_;intros;refine GPW.ef (Ef.l5 (enc:=ay) (e:=p) rfl rfl rfl rfl rfl aJ (dH _) ab ab) ag ?_;rintro _ _⟨b5,a5,rfl,rfl⟩;refine SM ?_;intros;refine GPW.ca (jK b5 (a0++[p]).length a5 (a0++[p]) rfl (by rw[ax,aG];omega) c7) ?_;rintro _ _⟨a2,a1,ys,rfl,c4,rfl⟩;refine SM ?_;intros;refine GPW.fct (gg (ad:=a2) (cap:=a1) (xs:=zset ys) (enc:=ay) (sz:=3) (E:=tLot)) ?_;rintro⟨b7,_⟩;refine GPW.efu (Ef.e9 (enc:=Stk.v) (e:=(⟨a2,a1,zset ys⟩:Stk)) rfl rfl rfl rfl) ?_;rintro _ _⟨rfl,rfl⟩;refine SM ?_;intros;refine⟨(i+1,gins mp p.1 ⟨a2,a1,zset ys⟩),⟨by dsimp only;omega,by dsimp only;rw[b4];exact a6 c3 ys c4 ⟨a2,a1,zset ys⟩ rfl b7,hg⟩,by dsimp only;omega,by dsimp only;rw[aU i];exact an,?_⟩;refine(Ent.frz a2).trans ?_;refine(Ent.at (A:=allP (fun p:Int×Stk=>stkP p.2) mp) (Ent.refl _)).trans ?_;refine(Ent.at (A:=isl ay 3 a2 (zset ys)) (lG (s:=⟨a2,a1,zset ys⟩) (k:=p.1))).trans ?_;simp only[chgL,cw,ledL,bS];exact ah
  ·refine GE.ef rfl (Ef.lit rfl rfl ag rfl) ag ?_;rintro _ _⟨bm,rfl,rfl⟩;refine⟨(by intro pe hp;simp only[bh,aH,or_false] at hp;rcases hp with rfl|rfl|rfl<;>first|exact Ev.d9 rfl rfl|exact Ev.e7 rfl aJ|exact Ev.e9 rfl rfl),?_⟩;refine GF.plan [.ef 7,.ef 10,.ef 11,.ef 12] krStd0 rfl ?_;refine SM ?_;intros;refine GPW.cr (jw sad a0.length scap a7) ?_;refine SM ?_;intros;refine GPW.ef (Ef.l5 (enc:=ay) (e:=p) rfl rfl rfl rfl rfl aJ (dH _) ab ab) ag ?_;rintro _ _⟨b5,a5,rfl,rfl⟩;refine SM ?_;intros;refine GPW.ca (jK b5 (a0++[p]).length a5 (a0++[p]) rfl (by rw[ax,aG];omega) c7) ?_;rintro _ _⟨a2,a1,ys,rfl,c4,rfl⟩;refine SM ?_;intros;refine GPW.fct (gg (ad:=a2) (cap:=a1) (xs:=zset ys) (enc:=ay) (sz:=3) (E:=tLot)) ?_;rintro⟨b7,_⟩;refine GPW.efu (Ef.e9 (enc:=Stk.v) (e:=(⟨a2,a1,zset ys⟩:Stk)) rfl rfl rfl rfl) ?_;rintro _ _⟨rfl,rfl⟩;refine SM ?_;intros;refine⟨(i+1,gins mp p.1 ⟨a2,a1,zset ys⟩),⟨by dsimp only;omega,by dsimp only;rw[b4];exact a6 c3 ys c4 ⟨a2,a1,zset ys⟩ rfl b7,hg⟩,by dsimp only;omega,by dsimp only;rw[aU i];exact an,?_⟩;refine(Ent.frz a2).trans ?_;refine(Ent.at (A:=allP (fun p:Int×Stk=>stkP p.2) mp) (Ent.refl _)).trans ?_;refine(Ent.at (A:=isl ay 3 a2 (zset ys)) (lG (s:=⟨a2,a1,zset ys⟩) (k:=p.1))).trans ?_;simp only[chgL,cw,ledL,bS];exact ah
