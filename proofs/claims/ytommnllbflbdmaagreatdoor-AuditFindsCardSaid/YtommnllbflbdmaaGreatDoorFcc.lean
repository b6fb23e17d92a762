/- Lemmas. -/
import Derived.Test.YtommnllbflbdmaaGreatDoorFbl
set_option linter.all false
set_option maxHeartbeats 8000000
namespace Go.Proofs.YtommnllbflbdmaaGreatDoor
section
open Go.V
attribute [local irreducible] G GO GP GPW GPK Ev Ef EfR Ent CB GB V.Enters
abbrev DE:=aH4 [.ev 17,.ev 18,.ev 19,.ev 20,.ev 21,.ev 22,.ev 23,.ev 24,.ev 25,.ev 26,.ev 27,.ev 28,.ev 29,.ev 30,.ev 31]
abbrev DD:=aH2 []
abbrev DC:=aH4 [.ev 17]
def cx{φ ψ:Prop}(k:ψ)(h:Hid ψ→φ:=by intro k;(with_reducible apply G.d7);first|refine G.dr 131 4 DE (Hid.out k)|refine G.dr 131 6 DD (Hid.out k)|refine G.dr 131 9 DC (Hid.out k)):φ:=h ⟨k⟩
def Yv{φ ψ:Prop}(k:ψ)(h:Hid ψ→φ:=by intro k;(repeat (first|refine aa ?_|intro zzz|refine cx ?_));(repeat revert zzz);exact Hid.out k):φ:=h ⟨k⟩
def qj(bl bs:Nat)(ad:OA)(c:Nat)(l:LL)(sad:OA)(sc:Nat)(set:LL)(e5:l.length≤1000000)(e3:set.length≤1000000)(hw:∀x∈l,LotOk x)(hs:SetOk set) :
  EN ai 326 [ay bl,ay bs] ((l.flatMap (pcs set)).map HW) [obj bl fJ [ah ad l.length c],obj bs fJ [ah sad set.length sc],isl aj 3 ad l,isl aj 3 sad set] []:=by
 intro i J Jx hy;rw[az]
 have a7 : ∀D q R,l.flatMap (pcs set)=D++q::R→YTri ai i (HW q) [J D.length] (fun v L'=>(v=.bool true∧L' = [J (D.length+1)])∨(v=.bool false∧L' = [Jx D.length])):=by
  intro D q R e;have hk:D.length<(l.flatMap (pcs set)).length:=by rw[e,aq,bD];omega
  have h:=hy D.length (by rw[az];exact hk);rw[cK] at h;have e2:(l.flatMap (pcs set))[D.length]=q:=(List.getElem_of_eq e hk).trans ce;rw[e2] at h;exact h
 clear hy;have hV:∀k,k≤l.length→l.flatMap (pcs set)=(l.take k).flatMap (pcs set)++(l.drop k).flatMap (pcs set):=fun k _=>by rw[←dg,dj]
 obtain⟨V,c5⟩:∃V,l.flatMap (pcs set)=V:=⟨_,rfl⟩;rw[c5] at a7 hV ⊢;refine Tri.bd (args:=[.func (.yield i) #[] #[],ay bl,ay bs]) ?_;refine Yv ?_;intros;refine G.loop (α:=Nat) (fun k=>k≤l.length) (fun k=>[(0,.func (.yield i) #[] #[]),(1,ay bl),(2,ay bs),(9,ah ad l.length c),(10,ac l.length),(11,ac (k:Int))]) (fun k=>[J ((l.take k).flatMap (pcs set)).length,obj bl fJ [ah ad l.length c],obj bs fJ [ah sad set.length sc],isl aj 3 ad l,isl aj 3 sad set]) (fun k=>l.length - k) 0 (ax _) av (Ent.refl _) ?_;intro k hk;by_cases c9:k<l.length
 case neg =>
  have e0:k=l.length:=ab;have e:(l.take k).flatMap (pcs set)=V:=by rw[e0,bC,c5]
  rw[e];refine Yv ?_;intros;exact KX.e7 an (Ent.d7 (Ent.nil _)) (.inl rfl)
 have d6:(k:Int).toNat=k:=aC k;have b3 : (k:Int).toNat<l.length:=ab;obtain⟨x0,a6⟩:∃x0,l[(k:Int).toNat]! = x0:=⟨_,rfl⟩;have b7:LotOk x0:=by rw[←a6];exact hw _ (aJ b3)
 have a4:l[k]! = x0:=by rw[←a6,d6]
 have hd:l.drop k=x0::l.drop (k+1):=by rw[ej c9,a4]
 have a8:V=(l.take k).flatMap (pcs set)++(pcs set x0++(l.drop (k+1)).flatMap (pcs set)):=by
  have:=hV k hk
  rw[hd,bI] at this;exact this
 have b9:=hV (k+1) c9;obtain⟨R,hR⟩:∃R,(l.drop (k+1)).flatMap (pcs set)=R:=⟨_,rfl⟩;rw[hR] at a8 b9
 have a3:∀D,V=D++R→D.length=((l.take (k+1)).flatMap (pcs set)).length:=fun D e=>by
  have:=List.append_cancel_right (b9.symm.trans e)
  rw[this]
 refine Yv ?_;intros;rw[a6];refine Yv ?_;intros;rename_i bx;refine GO.ent (L':=obj bs fJ [ah sad set.length sc]::obj bx tLot (aj x0)::[J ((l.take k).flatMap (pcs set)).length,obj bl fJ [ah ad l.length c],isl aj 3 ad l,isl aj 3 sad set]) (by simp only[aj];exact ag) ?_;refine GO.ca (zt bs bx sad sc set x0 b7.w hs e3) ?_;rintro _ _⟨i0,rfl,⟨b2,c6,c7⟩,rfl⟩;have b6:set.drop i0=skp x0 set:=xb x0 b2 c6 c7;have b1:=mS x0 hs.sl hs.ok;rw[←b6] at b1;have a9:V=(l.take k).flatMap (pcs set)++(pcz (set.drop i0) x0++R):=by rw[b6];exact a8
 generalize (l.take k).flatMap (pcs set)=D0 at a9;clear b6 c6 c7 a8;refine Yv ?_;intros;refine G.loop (α:=Lot×Nat×List (Lot×Bool)) (fun g=>LotW g.1∧g.2.1≤set.length∧(∀y∈set.drop g.2.1,pzP g.1 y)∧V=g.2.2++(pcz (set.drop g.2.1) g.1++R)) (fun g=>[(0,.func (.yield i) #[] #[]),(1,ay bl),(2,ay bs),(5,ay bx),(6,ac (g.2.1:Int)),(9,ah ad l.length c),(10,ac l.length),(11,ac (k:Int))]) (fun g=>[J g.2.2.length,obj bl fJ [ah ad l.length c],obj bs fJ [ah sad set.length sc],obj bx tLot (aj g.1),isl aj 3 ad l,isl aj 3 sad set]) (fun g=>set.length - g.2.1) (x0,i0,D0) ⟨b7.w,b2,b1,a9⟩ av (by simp only[aj];exact ag) ?_;clear a9 b1 b2 b7 a6 a4 hd;rintro⟨x,j,D⟩ ⟨d2,hj,hh,a0⟩;dsimp only at d2 hj hh a0 ⊢;have b8:=d2;unfold LotW at b8;have d5:(j:Int).toNat=j:=aC j;have c8:set[j]! = set[(j:Int).toNat]!:=by rw[d5]
 have d3:j<set.length→LotOk set[(j:Int).toNat]!:=fun h=>by rw[←c8];exact hs.ok _ (aJ h)
 have b0:j<set.length→set.drop j=set[(j:Int).toNat]!::set.drop (j+1):=fun h=>by rw[ej h,c8]
 simp only[aj];repeat first|refine G.sn 4 ?_|refine bV ?_|intro _|refine cx ?_
 refine G.d8 (α:=Unit) (fun _=>True) (fun _=>[(0,.func (.yield i) #[] #[]),(1,ay bl),(2,ay bs),(5,ay bx),(6,ac (j:Int)),(9,ah ad l.length c),(10,ac l.length),(11,ac (k:Int)),(50,.bool (dB (0<x.2.2∧j<set.length∧set[(j:Int).toNat]!.1=x.1∧set[(j:Int).toNat]!.2.1<x.2.1+x.2.2)))]) (fun _=>[J D.length,obj bl fJ [ah ad l.length c],obj bs fJ [ah sad set.length sc],obj bx tLot [ac x.1,ac x.2.1,ac x.2.2],isl aj 3 ad l,isl aj 3 sad set]) ?_ ?_
 ·by_cases c1:0<x.2.2
  case neg =>
   rw[aH (fun q=>c1 q.1)];refine Yv ?_;intros;exact⟨(),trivial,av,Ent.refl _⟩
  by_cases c2:j<set.length
  case neg =>
   rw[aH (fun q=>c2 q.2.1)];refine Yv ?_;intros;exact⟨(),trivial,av,Ent.refl _⟩
  have a1:=d3 c2;unfold LotOk at a1;by_cases c3:set[(j:Int).toNat]!.1=x.1
  case neg =>
   rw[aH (fun q=>c3 q.2.2.1)];refine Yv ?_;intros;exact⟨(),trivial,av,Ent.refl _⟩
  rw[show dB (0<x.2.2∧j<set.length∧set[(j:Int).toNat]!.1=x.1∧set[(j:Int).toNat]!.2.1<x.2.1+x.2.2)=dB (set[(j:Int).toNat]!.2.1<x.2.1+x.2.2) from by rw[fu,fu];exact decide_eq_decide.2 ⟨fun q=>q.2.2.2,fun q=>⟨c1,c2,c3,q⟩⟩];refine Yv ?_;intros;exact⟨(),trivial,av,Ent.refl _⟩
 rintro _ _;by_cases C:0<x.2.2∧j<set.length∧set[(j:Int).toNat]!.1=x.1∧set[(j:Int).toNat]!.2.1<x.2.1+x.2.2
 case neg =>
  rw[aH C];by_cases c1:0<x.2.2
  ·have e1:pcz (set.drop j) x=[(x,false)]:=by
    by_cases c2:j<set.length
    ·rw[b0 c2];exact oQ c1 (fun q=>C ⟨c1,c2,q.1,q.2⟩)
    ·rw[bG ab];exact if_pos c1
   rw[e1] at a0;have a5:=a7 D (x,false) R a0;have he:=a3 (D++[(x,false)]) (by rw[a0];simp);rw[aq,aM] at he;refine Yv ?_;intros;refine GO.ent (Ent.at (A:=J D.length) (Ent.refl _)) ?_;((with_reducible apply GO.d7);refine GO.efR (EfR.yield (a5) rfl rfl cN) ae ?_);rintro _ _⟨_,(⟨rfl,rfl⟩|⟨rfl,rfl⟩),hL⟩
   ·simp only[ao,al] at hL;subst hL;refine Yv ?_;intros;refine⟨k+1,ab,ab,?_,?_⟩
    ·rw[show(((k+1:Nat)):Int)=(k:Int)+1 by omega];exact av
    ·rw[←he];exact ag
   ·simp only[ao,al] at hL;subst hL;refine Yv ?_;intros;exact KX.d7 an (Ent.d7 (Ent.nil _)) (.inr ⟨D.length,rfl⟩)
  ·have he:=a3 D (by rw[a0,oP c1];rfl);refine Yv ?_;intros;refine⟨k+1,ab,ab,?_,?_⟩
   ·rw[show(((k+1:Nat)):Int)=(k:Int)+1 by omega];exact av
   ·rw[←he];exact ag
 rw[aU C];obtain⟨c1,c2,c3,c4⟩:=C;have a1:=d3 c2;have d0:=hh set[(j:Int).toNat]! (by rw[b0 c2];exact au);have b5:(set.drop j).Pairwise sl:=(hs.sl.sublist (List.drop_sublist j set));rw[b0 c2] at b5 a0 hh;rw[eC] at b5
 have d4:∀w∈set.drop (j+1),pzP (pz2 x set[(j:Int).toNat]!) w:=fun w hw=>by
  have h1:=b5.1 w hw;have h2:=hs.ok w (dp hw);unfold sl at h1;unfold LotOk at h2 a1;unfold pzP pz2 pzi pzo;dsimp only;omega
 rw[qX ⟨c1,c3,c4⟩] at a0
 have e4:LotW (pz2 x set[(j:Int).toNat]!):=by
  unfold LotOk at a1;unfold pzP at d0;unfold LotW pz2 pzi pzo;dsimp only;omega
 have ho:0≤pzo x set[(j:Int).toNat]!∧pzo x set[(j:Int).toNat]! < x.2.2∧0<pzi x set[(j:Int).toNat]!∧pzi x set[(j:Int).toNat]!≤x.2.2 - pzo x set[(j:Int).toNat]!:=by
  unfold LotOk at a1;unfold pzP at d0;unfold pzi pzo;omega
 have eo:max 0 (set[(j:Int).toNat]!.2.1 - x.2.1)=pzo x set[(j:Int).toNat]!:=rfl;have ei:min (x.2.2 - pzo x set[(j:Int).toNat]!) (set[(j:Int).toNat]!.2.1+set[(j:Int).toNat]!.2.2 - (x.2.1+pzo x set[(j:Int).toNat]!))=pzi x set[(j:Int).toNat]!:=rfl;have e2:pz2 x set[(j:Int).toNat]! = (x.1,x.2.1+pzo x set[(j:Int).toNat]! + pzi x set[(j:Int).toNat]!,x.2.2 - pzo x set[(j:Int).toNat]! - pzi x set[(j:Int).toNat]!):=rfl;unfold LotOk at a1;repeat first|refine G.sn 6 ?_|refine bV ?_|intro _|refine cx ?_
 refine G.d8 (α:=Unit) (fun _=>True) (fun _=>[(0,.func (.yield i) #[] #[]),(1,ay bl),(2,ay bs),(5,ay bx),(6,ac (j:Int)),(7,ac (pzo x set[(j:Int).toNat]!)),(9,ah ad l.length c),(10,ac l.length),(11,ac (k:Int))]) (fun _=>[J D.length,obj bl fJ [ah ad l.length c],obj bs fJ [ah sad set.length sc],obj bx tLot [ac x.1,ac x.2.1,ac x.2.2],isl aj 3 ad l,isl aj 3 sad set]) ?_ ?_
 ·rw[←eo];refine Yv ?_;intros;exact⟨(),trivial,av,Ent.refl _⟩
 rintro _ _;obtain⟨o,b4⟩:∃o,pzo x set[(j:Int).toNat]! = o:=⟨_,rfl⟩;obtain⟨q,d1⟩:∃q,pzi x set[(j:Int).toNat]! = q:=⟨_,rfl⟩;rw[b4,d1] at ho e2 ei;rw[b4,d1] at a0;rw[b4];clear eo;obtain⟨e6,f0,f1,f2⟩:=ho;obtain⟨D1,a2⟩:∃D1,D1=D++(if 0<o then[(((x.1,x.2.1,o):Lot),false)] else[]):=⟨_,rfl⟩;repeat first|refine G.sm 7 ?_|refine bV ?_|intro _|refine cx ?_
 refine G.d8 (α:=Unit) (fun _=>True) (fun _=>[(0,.func (.yield i) #[] #[]),(1,ay bl),(2,ay bs),(5,ay bx),(6,ac (j:Int)),(7,ac o),(9,ah ad l.length c),(10,ac l.length),(11,ac (k:Int))]) (fun _=>[J D1.length,obj bl fJ [ah ad l.length c],obj bs fJ [ah sad set.length sc],obj bx tLot [ac x.1,ac x.2.1,ac x.2.2],isl aj 3 ad l,isl aj 3 sad set]) ?_ ?_
 ·by_cases h0:0<o
  ·rw[if_pos h0] at a2 a0;have a5:=a7 D ((x.1,x.2.1,o),false) _ a0;refine Yv ?_;intros;refine GO.ent (Ent.at (A:=J D.length) (Ent.refl _)) ?_;((with_reducible apply GO.d7);refine GO.efR (EfR.yield (a5) rfl rfl cN) ae ?_);rintro _ _⟨_,(⟨rfl,rfl⟩|⟨rfl,rfl⟩),hL⟩
   ·simp only[ao,al] at hL;subst hL;refine Yv ?_;intros;refine⟨(),trivial,av,?_⟩;rw[a2,aq,aM];exact Ent.refl _
   ·simp only[ao,al] at hL;subst hL;refine Yv ?_;intros;exact KX.d7 an (Ent.d7 (Ent.nil _)) (.inr ⟨D.length,rfl⟩)
  ·rw[if_neg h0,aR] at a2;refine Yv ?_;intros;refine⟨(),trivial,av,?_⟩;rw[a2];exact Ent.refl _
 rintro _ _
 have c0:V=D1++(((x.1,x.2.1+o,q),true)::(pcz (set.drop (j+1)) (pz2 x set[(j:Int).toNat]!)++R)):=by
  rw[a0,a2];simp only[aF,ao]
 have a5:=a7 D1 ((x.1,x.2.1+o,q),true) _ c0;repeat first|refine G.sn 9 ?_|refine bV ?_|intro _|refine cx ?_
 refine G.d8 (α:=Unit) (fun _=>True) (fun _=>[(0,.func (.yield i) #[] #[]),(1,ay bl),(2,ay bs),(5,ay bx),(6,ac (j:Int)),(8,ac q),(9,ah ad l.length c),(10,ac l.length),(11,ac (k:Int))]) (fun _=>[J D1.length,obj bl fJ [ah ad l.length c],obj bs fJ [ah sad set.length sc],obj bx tLot [ac x.1,ac (x.2.1+o),ac (x.2.2 - o)],isl aj 3 ad l,isl aj 3 sad set]) ?_ ?_
 ·rw[←ei];refine Yv ?_;intros;exact⟨(),trivial,av,by exact ag⟩
 rintro _ _;refine Yv ?_;intros;refine GO.ent (Ent.at (A:=J D1.length) (Ent.refl _)) ?_;((with_reducible apply GO.d7);refine GO.efR (EfR.yield (a5) rfl rfl cN) ae ?_);rintro _ _⟨_,(⟨rfl,rfl⟩|⟨rfl,rfl⟩),hL⟩
 ·simp only[ao,al] at hL;subst hL;refine Yv ?_;intros;refine⟨(pz2 x set[(j:Int).toNat]!,j+1,D1++[((x.1,x.2.1+o,q),true)]),⟨e4,by dsimp only;omega,d4,by dsimp only;rw[c0];simp⟩,by dsimp only;omega,?_,?_⟩
  ·dsimp only;rw[show(((j+1:Nat)):Int)=(j:Int)+1 by omega];exact av
  ·dsimp only;rw[aq,aM,e2];simp only[aj];exact ag
 ·simp only[ao,al] at hL;subst hL;refine Yv ?_;intros;exact KX.d7 an (Ent.d7 (Ent.nil _)) (.inr ⟨D1.length,rfl⟩)
end
section
open Go.V
def pcI(l set:LL):LL:=(pcIn (l.flatMap (pcs set))).foldl aZ []
def pcO(l set:LL):LL:=(gH (l.flatMap (pcs set))).foldl aZ []
def FH(l:List (Lot×Bool))(q:Lot×Bool):pcIn (l++[q])=pcIn l++(if q.2=true then[q.1] else[]):=by
 rw[xW];obtain⟨x,b⟩:=q;cases b<;>rfl
def tI(l:List (Lot×Bool))(q:Lot×Bool):gH (l++[q])=gH l++(if q.2=true then[] else[q.1]):=by
 rw[ns];obtain⟨x,b⟩:=q;cases b<;>rfl
def Iz{l set:LL}(hs:SetOk set)(hw:∀x∈l,LotOk x):(∀q∈l.flatMap (pcs set),LotOk q.1)∧(l.flatMap (pcs set)).length≤l.length*(2*set.length+1):=by
 induction l with
 | nil=>exact⟨(fun q h=>by cases h),by simp⟩
 | cons x l ih =>
  obtain⟨i1,i2⟩:=ih (fun y hy=>hw y (aw _ hy));obtain⟨p1,p2⟩:=FG hs (hw x au);rw[bI];refine⟨fun q hq=>?_,?_⟩
  ·rcases List.mem_append.1 hq with h|h
   ·exact p1 q h
   ·exact i1 q h
  ·rw[aq,bD,Nat.succ_mul];omega
def IA(l:List (Lot×Bool)):(pcIn l).length≤l.length∧(gH l).length≤l.length:=by
 unfold pcIn gH;rw[az,az];exact⟨gc _ _,gc _ _⟩
def Hk{l:List (Lot×Bool)}(h:∀q∈l,LotOk q.1):(∀x∈pcIn l,LotW x)∧∀x∈gH l,LotW x:=by
 constructor
 ·intro x hx;obtain⟨q,hq,rfl⟩:=List.mem_map.1 hx;exact(h q (List.mem_filter.1 hq).1).w
 ·intro x hx;obtain⟨q,hq,rfl⟩:=List.mem_map.1 hx;exact(h q (List.mem_filter.1 hq).1).w
attribute [local irreducible] G GO GP GPW GPK Ev Ef EfR Ent CB GB V.Enters
abbrev DB:List Stp:=[.ev 0,.ev 1,.ef 2,.ef 3]
def fB{φ ψ:Prop}(k:ψ)(h:Hid ψ→φ:=by intro k;first|refine GO.ci (f:=304) (Hid.out k)|refine GPW.ci (f:=304) (Hid.out k)|refine GO.cf (f:=304) rfl (Hid.out k)|refine GPW.cf (f:=304) rfl (Hid.out k)|refine KX.inA (Hid.out k)):φ:=h ⟨k⟩
def iz{φ ψ:Prop}(k:ψ)(h:Hid ψ→φ:=by intro k;(with_reducible apply G.d7);first|refine G.dr 22 7 DB (Hid.out k)):φ:=h ⟨k⟩
def aG6{φ ψ:Prop}(k:ψ)(h:Hid ψ→φ:=by intro k;(repeat (first|refine aa ?_|intro zzz|refine iz ?_|refine fB ?_));(repeat revert zzz);exact Hid.out k):φ:=h ⟨k⟩
def qH(ad:OA)(c:Nat)(l:LL)(sad:OA)(sc:Nat)(set:LL)(a4:l.length≤4500)(a8:set.length≤4500)(hw:∀x∈l,LotOk x)(hs:SetOk set) :
  Tri ai 288 #[ah ad l.length c,ah sad set.length sc] [isl aj 3 ad l,isl aj 3 sad set] (fun v L'=>∃a0 c1 ad2 c2,v=.tuple #[ah a0 (pcI l set).length c1,ah ad2 (pcO l set).length c2]∧L' = [osl aj 3 tLot a0 c1 (pcI l set),osl aj 3 tLot ad2 c2 (pcO l set)]):=by
 obtain⟨hq,a7⟩:=Iz hs hw;have a2:l.length*(2*set.length+1)≤4500*9001:=Nat.mul_le_mul a4 ab;unfold pcI pcO;have a3:=fun bl bs=>qj bl bs ad c l sad sc set ab ab hw hs;generalize l.flatMap (pcs set)=V at *;refine Tri.bd ?_;refine aG6 ?_;intros;rename_i b4 b5 bx bf;refine G.f7 (a3 bx bf) rfl en326.1 ae ?_ (fun k=>[stkO b4 ((pcIn (V.take k)).foldl aZ []),stkO b5 ((gH (V.take k)).foldl aZ [])]) ?_ ?_ ?_
 ·intro vs a6;obtain⟨q,_,rfl⟩:=List.mem_map.1 a6;rfl
 ·simp only[ao,al,bK];rw[show(pcIn []).foldl aZ []=[] from rfl,show(gH []).foldl aZ []=[] from rfl];refine Ent.trans ?_ (Ent.l0 (none,0) (f:=stkA b4 []) (Ent.refl _));refine Ent.trans ?_ (Ent.append (Ent.refl (stkA b4 [] (none,0))) (Ent.l0 (none,0) (f:=stkA b5 []) (Ent.refl _)));simp only[stkA,cB,ao,al];refine Ent.trans (Ent.d8 aj 3 tLot) (Ent.trans (Ent.d8 aj 3 tLot) ?_);exact ag
 ·intro k hk;rw[az] at hk;rw[cK];have a5:V.take (k+1)=V.take k++[V[k]]:=aG hk;have a1:=hq _ (ew hk);obtain⟨l1,l2⟩:=IA (V.take k);obtain⟨w1,w2⟩:=Hk (l:=V.take k) (fun q h=>hq q (cc h));have a9:(V.take k).length≤41000000:=by rw[bg];omega
  have g1:=iQ (pcIn (V.take k)) [];have g2:=iQ (gH (V.take k)) [];have g3:=kz (l:=[]) (xs:=pcIn (V.take k)) (fun _ h=>by cases h) w1;have g4:=kz (l:=[]) (xs:=gH (V.take k)) (fun _ h=>by cases h) w2;rw[cB] at g1 g2;rw[a5,FH,tI,cv,cv];generalize (pcIn (V.take k)).foldl aZ []=T at *;generalize (gH (V.take k)).foldl aZ []=R at *;generalize V[k]=q at a1 ⊢;obtain⟨x,b⟩:=q;dsimp only at a1 ⊢;cases b with
  | true =>
   show G _ _ _ ((12,.bool true)::(11,aO (aj x))::_) _ _;rw[if_pos rfl,if_pos rfl];refine G.d9 (f:=stkA b4 T) ?_;rintro⟨a0,c1⟩;simp only[stkA,ao,al,fR,List.foldl_nil];refine aG6 ?_;intros;refine GO.ent (Ent.at (A:=osl aj 3 tLot a0 c1 T) (Ent.refl _)) ?_;refine GO.ca (vg a0 c1 T x ab g3 a1.w) ?_;rintro _ _⟨ad2,c2,rfl,rfl⟩;refine aG6 ?_;intros;refine KX.round ?_;refine Ent.trans ?_ (Ent.l0 (ad2,c2) (f:=stkA b4 (aZ T x)) (Ent.refl _));simp only[stkA,ao,al];exact ag
  | false =>
   show G _ _ _ ((12,.bool false)::(11,aO (aj x))::_) _ _;rw[if_neg ae,if_neg ae];refine G.ent Ent.swap ?_;refine G.d9 (f:=stkA b5 R) ?_;rintro⟨a0,c1⟩;simp only[stkA,ao,al,fR,List.foldl_nil];refine aG6 ?_;intros;refine GO.ent (Ent.at (A:=osl aj 3 tLot a0 c1 R) (Ent.refl _)) ?_;refine GO.ca (vg a0 c1 R x ab g4 a1.w) ?_;rintro _ _⟨ad2,c2,rfl,rfl⟩;refine aG6 ?_;intros;refine KX.round ?_;refine Ent.trans ?_ (Ent.swap (A:=stkO b5 (aZ R x)));refine Ent.trans ?_ (Ent.l0 (ad2,c2) (f:=stkA b5 (aZ R x)) (Ent.refl _));simp only[stkA,ao,al];exact ag
 ·rw[az,bC];generalize (pcIn V).foldl aZ []=T;generalize (gH V).foldl aZ []=R;simp only[aR];refine KX.d8 (KX.g9 ?_);refine G.d9 (f:=stkA b4 T) ?_;rintro⟨a0,c1⟩;refine G.ent (L':=stkO b5 R::stkA b4 T (a0,c1)) (Ent.perm (by simp only[stkA,ao,al];exact(List.Perm.cons _ (List.Perm.swap _ _ _)).trans (List.Perm.swap _ _ _))) ?_;refine G.d9 (f:=stkA b5 R) ?_;rintro⟨ad2,c2⟩;simp only[stkA,ao,al];refine aG6 ?_;intros;refine KX.d7 (vs:=[ah a0 T.length c1,ah ad2 R.length c2]) (ResOk.d7 rfl (ResOk.d7 rfl ResOk.nil)) ?_ ⟨a0,c1,ad2,c2,rfl,rfl⟩;exact ag
def aG7{φ ψ:Prop}(k:ψ)(h:Hid ψ→φ:=by intro k;(repeat (first|refine aa ?_|intro zzz|refine fB ?_));(repeat revert zzz);exact Hid.out k):φ:=h ⟨k⟩
def Cv(ad:OA)(c:Nat)(l:LL)(sad:OA)(sc:Nat)(set:LL)(a3:l.length≤4500)(a4:set.length≤4500)(hw:∀x∈l,LotOk x)(hs:SetOk set) :
  Tri ai 303 #[ah ad l.length c,ah sad set.length sc] [isl aj 3 ad l,isl aj 3 sad set] (rtQ (.bool (dB (gH (l.flatMap (pcs set))=[]))) ([])):=by
 have a0:=fun bl bs=>qj bl bs ad c l sad sc set ab ab hw hs;generalize l.flatMap (pcs set)=V at *;refine Tri.bd ?_;refine aG7 ?_;intros;rename_i b4 bx bf;refine G.f7 (a0 bx bf) rfl en326.1 ae ?_ (fun k=>[dA (gH (V.take k)=[]),obj b4 4 [.bool false]]) ?_ ?_ ?_
 ·intro vs a2;obtain⟨q,_,rfl⟩:=List.mem_map.1 a2;rfl
 ·simp only[ao,al,bK];refine Ent.trans ?_ (Ent.pure rfl (Ent.refl _));exact ag
 ·intro k hk;rw[az] at hk;rw[cK];have a1:V.take (k+1)=V.take k++[V[k]]:=aG hk;have hV:V=V.take k++(V[k]::V.drop (k+1)):=by rw[←ey hk,dj]
  generalize V[k]=q at *;obtain⟨x,b⟩:=q;refine G.e9 ?_;intro hp;cases b with
  | true =>
   show G _ _ _ ((11,.bool true)::_) _ _;refine aG7 ?_;intros;refine KX.round ?_;rw[a1,tI,hp];refine Ent.trans ?_ (Ent.pure rfl (Ent.refl _));exact Ent.refl _
  | false =>
   show G _ _ _ ((11,.bool false)::_) _ _
   have hn:¬gH V=[]:=fun h=>by
    rw[hV,ns] at h;have h2:=(List.append_eq_nil_iff.1 h).2;cases h2
   refine aG7 ?_;intros;refine KX.l7 ?_;simp only[aR];refine aG7 ?_;intros;refine KX.d7 (vs:=[.bool false]) (ResOk.d7 rfl ResOk.nil) (Ent.nil _) ⟨by rw[aH hn];rfl,rfl⟩
 ·rw[az,bC];simp only[aR];refine KX.d8 (KX.g9 ?_);refine G.e9 ?_;intro hp;rw[aU hp];refine aG7 ?_;intros;exact KX.d7 (vs:=[.bool true]) (ResOk.d7 rfl ResOk.nil) (Ent.nil _) ⟨rfl,rfl⟩
end
section
open Go.V
def oS{zs:LL}(hs:SetOk zs):∀{l:LL},(∀x∈l,LotOk x)→gH (l.flatMap (pcs zs))=l.flatMap (eQ zs)
 | [],_=>rfl
 | x::l,h=>by
  rw[bI,bI,ns,Iy hs (h x au),oS hs (fun y hy=>h y (aw _ hy))]
def qg{ps zs:LL}(hp:∀y∈ps,LotOk y)(hz:∀y∈zs,LotOk y)(h:∀f a,hasU ps f a↔hasU zs f a):∀{l:LL},(∀x∈l,LotOk x)→l.flatMap (eQ zs)=l.flatMap (eQ ps)
 | [],_=>rfl
 | x::l,hl=>by
  rw[bI,bI,Fr hp hz h (hl x au),qg hp hz h (fun y hy=>hl y (aw _ hy))]
def EW{ps own ys:LL}(h1:dQ ps)(ha:Apart ps)(h2:dQ own)(ho:Apart own)(hy:fj hdC own ys):gH (ps.flatMap (pcs (zset ys)))=[]↔fx ps own:=by
 obtain⟨s1,_,_,s4⟩:=lA hy h2.1;have hu:=fun f a=>(Cn s1.ok h2.1 (s4 ho) f a).symm;rw[oS s1 h1.1,qg h2.1 s1.ok hu h1.1,oA h1 ha h2 ho];have e:ps.flatMap (eQ own)=own.foldl subL ps:=(lN own ps).symm
 have a0:∀x∈ps.flatMap (eQ own),LotOk x:=fun x hx=>by
  obtain⟨y,hy,hx⟩:=List.mem_flatMap.1 hx;exact(mY h2.1 (h1.1 y hy)).1 x hx
 rw[e] at a0 ⊢;have a1:=uQ h2.1 h1.1 ho;rw[←a1];constructor
 ·intro h;rw[h,ik]
 ·intro h;cases hm:own.foldl subL ps with
  | nil=>rfl
  | cons x l =>
   rw[hm] at h a0;have:=jy a0 (Nat.zero_lt_succ l.length)
   omega
def Ct{s ps ys:LL}(hs:∀x∈s,LotOk x)(hp:∀x∈ps,LotOk x)(ha:Apart ps)(hy:fj hdC ps ys):pcO s (zset ys)=dS s ps:=by
 obtain⟨s1,_,_,s4⟩:=lA hy hp;have hu:=fun f a=>(Cn s1.ok hp (s4 ha) f a).symm;unfold pcO dS;rw[oS s1 hs,qg hp s1.ok hu hs,pi]
attribute [local irreducible] G GO GP GPW GPK Ev Ef EfR Ent CB GB V.Enters
def fA{φ ψ:Prop}(k:ψ)(h:Hid ψ→φ:=by intro k;first|refine GO.ci (f:=267) (Hid.out k)|refine GPW.ci (f:=267) (Hid.out k)|refine GO.cf (f:=267) rfl (Hid.out k)|refine GPW.cf (f:=267) rfl (Hid.out k)|refine KX.inA (Hid.out k)):φ:=h ⟨k⟩
def aG8{φ ψ:Prop}(k:ψ)(h:Hid ψ→φ:=by intro k;(repeat (first|refine aa ?_|intro zzz|refine fA ?_));(repeat revert zzz);exact Hid.out k):φ:=h ⟨k⟩
def ye{L:LH}(ad:OA)(n c:Nat)(xs:LL)[Rds L ad Lot aj 3 xs](hn:n=xs.length)(hm:n≤9223372036854775807) :
  Tri ai 261 #[ah ad n c] L (rtQ (.bool (dB (dQ xs))) L):=by
 subst hn;refine Tri.bd ?_;by_cases hb:xs.length≤4096
 case neg =>
  rw[aH (fun q:dQ xs=>hb q.2)];refine aG8 ?_;intros;exact KX.en ⟨rfl,rfl⟩
 refine aG8 ?_;intros;refine G.loop (α:=Nat) (fun i=>i≤xs.length∧∀k,k<i→LotOk xs[k]!) (fun i=>[(0,ah ad xs.length c),(8,ah ad xs.length c),(9,ac xs.length),(10,ac (i:Int))]) (fun _=>L) (fun i=>xs.length - i) 0 ⟨ax _,fun k hk=>absurd hk (cj k)⟩ av (Ent.refl _) ?_;rintro i ⟨hi,a4⟩;by_cases a6:i<xs.length
 case neg =>
  have a1:∀x∈xs,LotOk x:=fun x hx=>by
   obtain⟨k,hk,e⟩:=List.mem_iff_getElem.1 hx;have h2:=a4 k ab;rw[getElem!_of hk,e] at h2;exact h2
  rw[aU (show dQ xs from⟨a1,hb⟩)];refine aG8 ?_;intros;exact KX.en ⟨rfl,rfl⟩
 have a5:(i:Int).toNat=i:=aC i;have a2:=aJ a6
 have a3:LotOk xs[i]!→∀k,k<i+1→LotOk xs[k]!:=fun h k hk=>by
  by_cases e:k=i
  ·rw[e];exact h
  ·exact a4 k ab
 have a0:¬LotOk xs[i]!→¬dQ xs:=fun h q=>h (q.1 _ a2);rw[show xs[i]! = xs[(i:Int).toNat]! by rw[a5]] at a3 a0;by_cases o1:0≤xs[(i:Int).toNat]!.1
 case neg =>
  rw[aH (a0 (fun q=>o1 q.1))];refine aG8 ?_;intros;exact KX.en ⟨rfl,rfl⟩
 by_cases o2:0≤xs[(i:Int).toNat]!.2.1
 case neg =>
  rw[aH (a0 (fun q=>o2 q.2.1))];refine aG8 ?_;intros;exact KX.en ⟨rfl,rfl⟩
 by_cases o3:xs[(i:Int).toNat]!.2.1≤1099511627776
 case neg =>
  rw[aH (a0 (fun q=>o3 q.2.2.1))];refine aG8 ?_;intros;exact KX.en ⟨rfl,rfl⟩
 by_cases o4:1≤xs[(i:Int).toNat]!.2.2
 case neg =>
  rw[aH (a0 (fun q=>o4 q.2.2.2.1))];refine aG8 ?_;intros;exact KX.en ⟨rfl,rfl⟩
 by_cases o5:xs[(i:Int).toNat]!.2.2≤1099511627776 - xs[(i:Int).toNat]!.2.1
 case neg =>
  rw[aH (a0 (fun q=>o5 q.2.2.2.2))];refine aG8 ?_;intros;rw[aH o5];refine aG8 ?_;intros;exact KX.en ⟨rfl,rfl⟩
 refine aG8 ?_;intros;rw[aU o5];refine aG8 ?_;intros;refine⟨i+1,⟨ab,a3 ⟨o1,o2,o3,o4,o5⟩⟩,ab,?_,by exact ag⟩;rw[aY i];exact av
def ym{L:LH}(pad:OA)(pc:Nat)(ps:LL)(sad:OA)(sc:Nat)(own:LL)(h1:dQ ps)(ha:Apart ps)(h2:dQ own)(ho:Apart own) :
  Tri ai 285 #[ah pad ps.length pc,ah sad own.length sc] (isl aj 3 pad ps::isl aj 3 sad own::L) (rtQ (.bool (dB (fx ps own))) (isl aj 3 pad ps::isl aj 3 sad own::L)):=by
 refine Tri.bd ?_;refine JM ?_;intros;refine GO.cr (io pad ps.length pc ps rfl h1.2 h1.1) ?_;refine JM ?_;intros;refine GO.cr (io sad own.length sc own rfl h2.2 h2.1) ?_;refine JM ?_;intros;refine GO.ca (jY sad own.length sc own rfl (by have:=h2.2;omega) h2.1) ?_;rintro _ _⟨a0,zc,ys,rfl,a1,rfl⟩;obtain⟨s1,s2,_,_⟩:=lA a1 h2.1;refine JM ?_;intros;refine GO.ent (L':=[isl aj 3 pad ps,isl aj 3 a0 (zset ys)]++(isl aj 3 pad ps::isl aj 3 sad own::L)) ((Ent.at (A:=isl aj 3 pad ps) (Ent.dup (bM _ _ _ _).pers)).trans ((Ent.at (A:=osl aj 3 tLot a0 zc (zset ys)) Ent.freezeSl).trans (by simp only[ao,al];exact ag))) ?_;simp only[ao,al];(first|refine GO.ef (Ef.call (Cv pad pc ps a0 zc (zset ys) (by have:=h1.2;omega) (by have:=h2.2;omega) h1.1 s1) rfl cN) ae ?_);rintro _ _⟨_,⟨rfl,rfl⟩,hL⟩;simp only[ao,al] at hL;subst hL;refine JM ?_;intros;refine KX.d7 an (Ent.refl _) ⟨?_,rfl⟩;rw[show dB (gH (ps.flatMap (pcs (zset ys)))=[])=dB (fx ps own) by rw[fu,fu];exact decide_eq_decide.2 (EW h1 ha h2 ho a1)];rfl
def wj{L:LH}(sad:OA)(sc:Nat)(s:LL)(pad:OA)(pc:Nat)(ps:LL)(h1:dQ ps)(ha:Apart ps)(h2:dQ s) :
  Tri ai 286 #[ah sad s.length sc,ah pad ps.length pc] (isl aj 3 pad ps::isl aj 3 sad s::L) (fun v L'=>∃a1 c',v=ah a1 (dS s ps).length c'∧L' = osl aj 3 tLot a1 c' (dS s ps)::isl aj 3 pad ps::isl aj 3 sad s::L):=by
 refine Tri.bd ?_;refine JM ?_;intros;refine GO.cr (io sad s.length sc s rfl h2.2 h2.1) ?_;refine JM ?_;intros;refine GO.cr (io pad ps.length pc ps rfl h1.2 h1.1) ?_;refine JM ?_;intros;refine GO.ca (jY pad ps.length pc ps rfl (by have:=h1.2;omega) h1.1) ?_;rintro _ _⟨a0,zc,ys,rfl,a2,rfl⟩;obtain⟨s1,s2,_,_⟩:=lA a2 h1.1;refine JM ?_;intros;refine GO.ent (L':=[isl aj 3 sad s,isl aj 3 a0 (zset ys)]++(isl aj 3 pad ps::isl aj 3 sad s::L)) ((Ent.at (A:=isl aj 3 sad s) (Ent.dup (bM _ _ _ _).pers)).trans ((Ent.at (A:=osl aj 3 tLot a0 zc (zset ys)) Ent.freezeSl).trans (by simp only[ao,al];exact ag))) ?_;simp only[ao,al];(first|refine GO.ef (Ef.call (qH sad sc s a0 zc (zset ys) (by have:=h2.2;omega) (by have:=h1.2;omega) h2.1 s1) rfl cN) ae ?_);rintro _ _⟨_,⟨a3,c1,ad2,c2,rfl,rfl⟩,hL⟩;simp only[ao,al] at hL;subst hL;rw[Ct h2.1 h1.1 ha a2];refine JM ?_;intros;exact KX.en ⟨ad2,c2,rfl,rfl⟩
end
section
open Go.V
structure ChG where
 cs:Nat
 ct:Nat
 ci:Nat
 cr:Nat
 stk:List ((Int×Int)×Stk)
 tot:List (Int×Int)
 imp:List (Int×Stk)
 ret:List (Int×Stk)
 flows:List FlV
 fad:OA
 fcap:Nat
 sunk:List Int
 kad:OA
 kcap:Nat
abbrev cn(b:Nat)(s:StV)(z:ChG):LV:=[ay b,ac s.id,ac s.kind,ac s.actor,ac s.tick,ac s.rule,ac s.times,ah s.mad s.moves.length s.mcap,.map (some z.cs),.map (some z.ct),.map (some z.ci),.map (some z.cr),ah z.fad z.flows.length z.fcap,ah z.kad z.sunk.length z.kcap]
abbrev chgL(b bc:Nat)(s:StV)(z:ChG)(L:LH):LH :=
 obj bc tCh (cn b s z)::gmap kvP Stk.v z.cs z.stk::gmap kvI encN z.ct z.tot::gmap kvI Stk.v z.ci z.imp::gmap kvI Stk.v z.cr z.ret::osl aQ 11 bE z.fad z.fcap z.flows::osl (encZ .i64) 1 tInt z.kad z.kcap z.sunk::allP (fun p:(Int×Int)×Stk=>stkP p.2) z.stk::allP flP z.flows::allP (fun p:Int×Stk=>stkP p.2) z.imp::allP (fun p:Int×Stk=>stkP p.2) z.ret::L
def uOf{κ:Type}[DecidableEq κ](z x:List (κ×Stk))(k:κ):Stk:=(glk z k).getD (eY x k)
def qS{κ:Type}[DecidableEq κ]{z x:List (κ×Stk)}(k:κ){L:LH}:Ent (allP (fun p:κ×Stk=>stkP p.2) z::allP (fun p:κ×Stk=>stkP p.2) x::L) (stkP (uOf z x k)::allP (fun p:κ×Stk=>stkP p.2) z::allP (fun p:κ×Stk=>stkP p.2) x::L):=by
 unfold uOf;cases h:glk z k with
 | none=>exact(Ent.d7 (nm k)).trans Ent.swap
 | some s=>exact Ent.e7 (f:=fun p:κ×Stk=>stkP p.2) (x:=(k,s)) (ji h)
def lI{κ:Type}[DecidableEq κ]{m:List (κ×Stk)}{k:κ}{s:Stk}{L:LH}:Ent (stkP s::allP (fun p:κ×Stk=>stkP p.2) m::L) (allP (fun p:κ×Stk=>stkP p.2) (gins m k s)::L) :=
 (Ent.g8 (f:=fun p:κ×Stk=>stkP p.2) (fun p=>mQ p.2) (x:=(k,s)) (l:=m)).trans (Ent.j0 (l':=gins m k s) pf)
def kJ{κ:Type}[DecidableEq κ]{z x:List (κ×Stk)}{k q:κ}{s:Stk}:uOf (gins z k s) x q=if q=k then s else uOf z x q:=by
 unfold uOf;rw[kc];split<;>rfl
structure SetS (g:Int→Stk) (l:LL):Prop where
 ok:∀f,SetOk (g f).lots
 cap:∀f,(g f).lots.length≤(g f).cap
 len:∀f,(g f).lots.length≤l.length
 ov:∀f t,LotOk t→t.1=f→OV (g f).lots t=OV (ofF l f) t
def xd{g:Int→Stk}{l:LL}(h:SetS g l)(hl:∀y∈l,LotOk y){p:Lot}(hp:LotOk p):(∃y∈(g p.1).lots,¬apart y p)↔∃y∈ofF l p.1,ovP p y:=by
 rw[←uj (h.ok p.1).ok hp,h.ov p.1 p hp rfl,uj (fun y hy=>hl y (ofF_mem.1 hy).1) hp];constructor
 ·rintro⟨y,hy,hn⟩;have:=(ofF_mem.1 hy).2
  refine⟨y,hy,?_⟩;unfold apart at hn;unfold ovP;omega
 ·rintro⟨y,hy,hn⟩;have:=(ofF_mem.1 hy).2
  refine⟨y,hy,?_⟩;unfold ovP at hn;unfold apart;omega
def BR{set:LL}(hs:SetOk set){p:Lot}(hp:LotOk p):0<(pcI [p] set).length↔∃y∈set,¬apart y p:=by
 rw[←Jd hs hp];have e:pcI [p] set=(pcIn (pcs set p)).foldl aZ []:=by unfold pcI;rw[kH]
 rw[e]
 have hw:∀x∈pcIn (pcs set p),1≤x.2.2:=fun x hx=>by
  obtain⟨q,hq,rfl⟩:=List.mem_map.1 hx;have:=(FG hs hp).1 q (List.mem_filter.1 hq).1
  unfold LotOk at this;omega
 generalize pcIn (pcs set p)=P at hw;cases P with
 | nil=>exact⟨fun h=>absurd h ae,fun h=>absurd rfl h⟩
 | cons x P =>
  have h1:=hw x au;have hx:aZ [] x=[x]:=by unfold aZ;rw[if_neg ab,if_neg (fun q=>q.1 rfl)];rfl
  have a0:∀(P l:LL),0<l.length→0<(P.foldl aZ l).length:=by
   intro P;induction P with
   | nil=>intro l h;exact h
   | cons y P ih =>
    intro l h;refine ih _ ?_;unfold aZ;split
    ·exact h
    ·split
     ·rw[bh];exact h
     ·rw[aq];omega
  refine⟨fun _ h=>(by cases h),fun _=>?_⟩;show 0<(P.foldl aZ (aZ [] x)).length;rw[hx];exact a0 P [x] (by rw[aM];exact Nat.one_pos)
def xe{g:Int→Stk}{l:LL}(h:SetS g l)(hl:∀y∈l,LotOk y){p:Lot}(hp:LotOk p)(hn:¬ ∃y∈(g p.1).lots,¬apart y p){ys:LL}(hy:fj hdC ((g p.1).lots++[p]) ys){g' : Int→Stk}(h1:(g' p.1).lots=zset ys)(hc:(zset ys).length≤(g' p.1).cap)(h2:∀f,f≠p.1→g' f=g f):SetS g' (l++[p]):=by
 have a1:∀x∈(g p.1).lots++[p],LotOk x:=fun x hx=>by
  rcases List.mem_append.1 hx with q|q
  ·exact(h.ok p.1).ok x q
  ·rw[List.mem_singleton.1 q];exact hp
 obtain⟨s1,s2,_,s4⟩:=lA hy a1;have ha:Apart ((g p.1).lots++[p]):=apart_snoc_iff.2 ⟨xa (h.ok p.1).sl,fun y hq=>Classical.byContradiction fun r=>hn ⟨y,hq,r⟩⟩;have a0:=h.len;refine⟨fun f=>?_,fun f=>?_,fun f=>?_,fun f t ht hf=>?_⟩
 ·by_cases e:f=p.1
  ·rw[e,h1];exact s1
  ·rw[h2 f e];exact h.ok f
 ·by_cases e:f=p.1
  ·rw[e,h1];exact hc
  ·rw[h2 f e];exact h.cap f
 ·rw[aq,aM];by_cases e:f=p.1
  ·rw[e,h1];have:=a0 p.1
   rw[aq,aM] at s2;omega
  ·rw[h2 f e];have:=a0 f
   omega
 ·rw[su];by_cases e:f=p.1
  ·rw[e,h1,s4 ha t ht,gL,iM,if_pos rfl,gL,iM,h.ov p.1 t ht (hf.trans e)]
  ·rw[h2 f e,if_neg (fun q=>e q.symm)];exact h.ov f t ht hf
def Hc:SetS (fun _=>⟨none,0,[]⟩) []:=⟨fun _=>⟨(fun y h=>by cases h),.nil⟩,fun _=>aB _,fun _=>aB _,fun _ _ _ _=>rfl⟩
attribute [local irreducible] G GO GP GPW GPK GF GE Ev Ef EfR Ent CB GB V.Enters
def sW{L R1 R2:LH}{mz mx:Nat}{z x:List (Int×Stk)}[a0:PickG L mz Int Stk kvI Stk.v z R1][a1:PickG L mx Int Stk kvI Stk.v x R2](f:Int) :
  Tri ai 287 #[.map (some mz),.map (some mx),ac f] L (rtQ ((uOf z x f).v) L):=by
 refine Tri.bd ?_;refine JM ?_;intros;refine GO.ev (Ev.l9 rfl rfl) ae ?_;cases h:@List.lookup _ _ instBEqOfDecidableEq f z with
 | some k =>
  simp only[fm,gn,Option.isSome_some];refine JM ?_;intros;refine KX.d7 an ag ⟨?_,rfl⟩;unfold uOf glk;rw[h];rfl
 | none =>
  simp only[eO,el,Option.isSome_none];refine JM ?_;intros;refine GO.ev (Ev.e8 rfl rfl) ae ?_;rw[ob];refine JM ?_;intros;refine KX.d7 an ag ⟨?_,rfl⟩;unfold uOf glk;rw[h];rfl
end
section
open Go.V
attribute [local irreducible] G GO GP GPW GPK GF GE Ev Ef EfR Ent CB GB V.Enters
abbrev DA:=aH3 [.ef 13,.ev 14]
def cY{φ ψ:Prop}(k:ψ)(h:Hid ψ→φ:=by intro k;(with_reducible apply G.d7);first|refine G.dr 71 7 DA (Hid.out k)):φ:=h ⟨k⟩
def YR{φ ψ:Prop}(k:ψ)(h:Hid ψ→φ:=by intro k;(repeat (first|refine aa ?_|intro zzz|refine cY ?_));(repeat revert zzz);exact Hid.out k):φ:=h ⟨k⟩
def EG{L:LH}(b bc:Nat)(sh:Int)(x:LedX)(s:StV)(z:ChG)(l:LL)(hm:SetS (uOf z.imp x.imp) l)(hl:l.length≤2000)(c8:∀y∈l,LotOk y)(m:MvV)[hr:Rds L m.pad Lot aj 3 m.m.parts](hp:∀p∈m.m.parts,LotOk p)(hb:∀p∈m.m.parts,p.1≤9223372036854775807)(d1:m.m.parts.length≤2000) :
  Tri ai 265 #[ay bc,aO (aL m)] (chgL b bc s z (ledL b sh x L)) (fun v L'=>∃u,v=ac (impG sh m.m.parts l)∧(impG sh m.m.parts l=0→SetS (uOf u x.imp) (l++m.m.parts))∧L' = chgL b bc s { z with imp:=u } (ledL b sh x L)):=by
 obtain⟨⟨frm,to,item,mn,parts⟩,pad,pcap⟩:=m;dsimp only at hr hp hb d1 ⊢;refine Tri.bd (args:=[ay bc,aO (aL ⟨⟨frm,to,item,mn,parts⟩,pad,pcap⟩)]) ?_;simp only[aL,chgL,cn,ledL,bR];refine YR ?_;intros;rename_i b3;refine G.loop (α:=Nat×List (Int×Stk)) (fun g=>g.1≤parts.length∧SetS (uOf g.2 x.imp) (l++parts.take g.1)∧impG sh parts l=impG sh (parts.drop g.1) (l++parts.take g.1)) (fun g=>[(0,ay bc),(12,ah pad parts.length pcap),(13,ac parts.length),(14,ac (g.1:Int))]) (fun g=>chgL b bc s { z with imp:=g.2 } (ledL b sh x (L))) (fun g=>parts.length - g.1) (0,z.imp) ⟨ax _,by rw[bK,aR];exact hm,by rw[bK,aR];rfl⟩ av (by(try simp only[chgL,cn,ledL,bR]);exact ag) ?_;rintro⟨i,mp⟩ ⟨hi,a3,hg⟩;dsimp only at hi a3 hg ⊢;by_cases a9:i<parts.length
 case neg =>
  rw[bG ab,aD ab] at hg;rw[aD ab] at a3;have c6:impG sh parts l=0:=hg;rw[c6];(try simp only[chgL,cn,ledL,bR]);refine YR ?_;intros;refine KX.d7 an ?_ ⟨mp,rfl,fun _=>a3,rfl⟩;(try simp only[chgL,cn,ledL,bR]);exact ag
 have c7:(i:Int).toNat=i:=aC i;have c9 : (i:Int).toNat<parts.length:=ab;have e1:parts[(i:Int).toNat]! = parts[i]!:=by rw[c7]
 have b2:l++parts.take (i+1)=l++parts.take i++[parts[(i:Int).toNat]!]:=by rw[e1,aG a9,getElem!_of a9,aF]
 have d0:(l++parts.take i).length≤4000:=by rw[aq,bg];omega
 have a8:∀y∈l++parts.take i,LotOk y:=fun y hy=>by
  rcases List.mem_append.1 hy with q|q
  ·exact c8 y q
  ·exact hp y (cc q)
 have c0:=hb _ (aJ a9);have a4:=hp _ (aJ a9);rw[←e1] at c0 a4;rw[ej a9,qu,←e1] at hg;rw[←b2] at hg;have b5:impG sh parts l≠0→(impG sh parts l=0→SetS (uOf mp x.imp) (l++parts)):=fun h q=>absurd q h;obtain⟨p,c4⟩:∃p,parts[(i:Int).toNat]! = p:=⟨_,rfl⟩;rw[c4] at c0 a4 hg b2;clear e1;have b7:=a4;unfold LotOk at b7;have a7:=xd a3 a8 a4;(try simp only[chgL,cn,ledL,bR]);refine YR ?_;intros;rw[c4];simp only[aj];refine YR ?_;intros;by_cases c1:p.1 / 4294967296=sh
 ·rw[if_pos (.inl c1)] at hg;rw[hg] at b5 ⊢;refine YR ?_;intros;exact KX.d7 an (by(try simp only[chgL,cn,ledL,bR]);exact ag) ⟨mp,rfl,fun h=>absurd h ae,rfl⟩
 by_cases c2:11<p.1 / 4294967296
 ·rw[if_pos (.inr c2)] at hg;rw[hg] at b5 ⊢;refine YR ?_;intros;exact KX.d7 an (by(try simp only[chgL,cn,ledL,bR]);exact ag) ⟨mp,rfl,fun h=>absurd h ae,rfl⟩
 rw[if_neg (fun q=>q.elim c1 c2)] at hg;refine YR ?_;intros;refine GPW.cr (sW (z:=mp) (x:=x.imp) p.1) ?_;have b1:=a3.ok p.1;have a6:=a3.cap p.1;have d3:=a3.len p.1;have a5:=fun (h:¬ ∃y∈(uOf mp x.imp p.1).lots,¬apart y p) (ys:LL) (hy:fj hdC ((uOf mp x.imp p.1).lots++[p]) ys) (s' : Stk) (h1:s'.lots=zset ys) (h2:(zset ys).length≤s'.cap)=>xe (g':=uOf (gins mp p.1 s') x.imp) a3 a8 a4 h hy (by rw[kJ,if_pos rfl,h1]) (by rw[kJ,if_pos rfl];exact h2) (fun f e=>by rw[kJ,if_neg e]);have b0:=fun M:LH=>qS (z:=mp) (x:=x.imp) p.1 (L:=M);generalize uOf mp x.imp p.1=sk at *;obtain⟨sad,scap,a0⟩:=sk;dsimp only at b1 a6 d3 a5 a7
 have c5:∀y∈a0++[p],LotOk y:=fun y hy=>by
  rcases List.mem_append.1 hy with q|q
  ·exact b1.ok y q
  ·rw[List.mem_singleton.1 q];exact a4
 simp only[Stk.v];refine YR ?_;intros;rename_i b6 bl;refine GO.ent (L':=[isl aj 3 (some ⟨bl,0,none⟩) [p],isl aj 3 sad a0]++(isl aj 3 sad a0::chgL b bc s { z with imp:=mp } (ledL b sh x (obj b6 tLot (aj p)::L)))) ?_ ?_
 ·refine(Ent.at (A:=obj bl tLot [ac p.1,ac p.2.1,ac p.2.2]) (Ent.f7 (enc:=aj) (sz:=3) (xs:=[p]) (n:=1) rfl rfl (fun _ _=>rfl) ae)).trans (Ent.freezeSl.trans ?_);refine(Ent.at (A:=allP (fun p:Int×Stk=>stkP p.2) mp) (Ent.refl _)).trans ?_;refine(Ent.d7 (Ent.at (A:=allP (fun p:Int×Stk=>stkP p.2) x.imp) (Ent.refl _))).trans ?_;refine(b0 _).trans ?_;refine Ent.trans (show Ent (stkP ⟨sad,scap,a0⟩::_) (isl aj 3 sad a0::_) from Ent.refl _) ?_;refine(Ent.dup (bM _ _ _ _).pers).trans ?_;simp only[chgL,cn,ledL,bR,aj,ao,al];exact ag
 simp only[ao,al];(first|refine GO.ef (Ef.call (qH (some ⟨bl,0,none⟩) 1 [p] sad scap a0 (by rw[aM];decide) ab (fun y hy=>by rw[List.mem_singleton.1 hy];exact a4) b1) rfl cN) ae ?_);rintro _ _⟨_,⟨d4,d5,ad2,d6,rfl,rfl⟩,hL⟩;simp only[ao,al] at hL;subst hL;have b8:=BR b1 a4;generalize hpi:(pcI [p] a0).length=pn at b8;refine YR ?_;intros;by_cases c3:∃y∈a0,¬apart y p
 ·have d2:=b8.2 c3;rw[if_pos (a7.1 c3)] at hg;rw[hg] at b5 ⊢;(try simp only[chgL,cn,ledL,bR]);refine YR ?_;intros;exact KX.d7 an (by(try simp only[chgL,cn,ledL,bR]);exact ag) ⟨mp,rfl,fun h=>absurd h ae,rfl⟩
 have d2:¬0<pn:=fun q=>c3 (b8.1 q);rw[if_neg (fun q=>c3 (a7.2 q))] at hg;repeat first|refine G.sn 11 ?_|refine bV ?_|intro _|refine cY ?_
 refine G.ent (L':=asl aj 3 tLot sad a0.length a0::obj b6 tLot [ac p.1,ac p.2.1,ac p.2.2]::chgL b bc s { z with imp:=mp } (ledL b sh x (L))) ?_ ?_
 ·refine(Ent.at (A:=isl aj 3 sad a0) (Ent.m8 (E:=tLot) (by simp only[maxLen];omega))).trans ?_;(try simp only[chgL,cn,ledL,bR,aj]);exact ag
 ·skip;simp only[chgL,cn,ledL,bR];refine G.e7 mixed krStd0 ?_;refine GF.evP (i:=0) rfl krStd0 (Ev.move rfl) ae ?_;refine GF.evP (i:=1) rfl krStd0 (Ev.nilCheck rfl) ae ?_;refine GF.evP (i:=2) rfl krStd0 (by first|exact Ev.fieldAddr rfl|exact Ev.e9 rfl) ae ?_;refine GF.evL (i:=3) rfl krStd0 (by first|exact Ev.d8 rfl rfl|exact Ev.d7 rfl aK|exact Ev.d9 rfl rfl|exact Ev.e7 rfl ab|exact Ev.f7 rfl ab ae rfl) ae ?_;refine GF.evP (i:=4) rfl krStd0 (by first|exact Ev.fieldAddr rfl|exact Ev.e9 rfl) ae ?_;refine GF.evL (i:=5) rfl krStd0 (by first|exact Ev.d8 rfl rfl|exact Ev.d7 rfl aK|exact Ev.d9 rfl rfl|exact Ev.e7 rfl ab|exact Ev.f7 rfl ab ae rfl) ae ?_;refine GF.evP (i:=6) rfl krStd0 (Ev.move rfl) ae ?_;refine GF.evL (i:=8) rfl krStd0 (by first|exact Ev.d8 rfl rfl|exact Ev.d7 rfl aK|exact Ev.d9 rfl rfl|exact Ev.e7 rfl ab|exact Ev.f7 rfl ab ae rfl) ae ?_;refine GF.d7 7 9 krStd0 ?_ ?_
  ·refine GE.ef rfl (Ef.g8 (jq sad a0.length scap a6) rfl) ae ?_;rintro _ _⟨rfl,rfl⟩;refine⟨(by intro pe hp;simp only[bA,aV,or_false] at hp;rcases hp with rfl|rfl|rfl<;>first|exact Ev.d8 rfl rfl|exact Ev.d7 rfl aK|exact Ev.d9 rfl rfl),?_⟩;refine GF.plan [.ef 9,.ef 10,.ef 11,.ef 12] krStd0 rfl ?_;refine YR ?_;intros;refine GPW.ef (Ef.j0 (enc:=aj) (e:=p) rfl rfl rfl rfl rfl aK (bX _) ab ab) ae ?_;rintro _ _⟨ad3,cap3,rfl,rfl⟩;refine YR ?_;intros;refine GPW.ca (jY ad3 (a0++[p]).length cap3 (a0++[p]) rfl (by rw[aq,aM];omega) c5) ?_;rintro _ _⟨a2,a1,ys,rfl,b9,rfl⟩;refine YR ?_;intros;refine GPW.fct (gA (ad:=a2) (cap:=a1) (xs:=zset ys) (enc:=aj) (sz:=3) (E:=tLot)) ?_;rintro⟨b4,_⟩;refine GPW.efu (Ef.e8 (enc:=Stk.v) (e:=(⟨a2,a1,zset ys⟩:Stk)) rfl rfl rfl rfl) ?_;rintro _ _⟨rfl,rfl⟩;refine YR ?_;intros;refine⟨(i+1,gins mp p.1 ⟨a2,a1,zset ys⟩),⟨by dsimp only;omega,by dsimp only;rw[b2];exact a5 c3 ys b9 ⟨a2,a1,zset ys⟩ rfl b4,hg⟩,by dsimp only;omega,by dsimp only;rw[aY i];exact av,?_⟩;refine(Ent.frz a2).trans ?_;refine(Ent.at (A:=allP (fun p:Int×Stk=>stkP p.2) mp) (Ent.refl _)).trans ?_;refine(Ent.at (A:=isl aj 3 a2 (zset ys)) (lI (s:=⟨a2,a1,zset ys⟩) (k:=p.1))).trans ?_;simp only[chgL,cn,ledL,bR];exact ag
  ·refine GE.ef rfl (Ef.lit rfl rfl ae rfl) ae ?_;rintro _ _⟨bm,rfl,rfl⟩;refine⟨(by intro pe hp;simp only[bA,aV,or_false] at hp;rcases hp with rfl|rfl|rfl<;>first|exact Ev.d8 rfl rfl|exact Ev.d7 rfl aK|exact Ev.d9 rfl rfl),?_⟩;refine GF.plan [.ef 7,.ef 10,.ef 11,.ef 12] krStd0 rfl ?_;refine YR ?_;intros;refine GPW.cr (jq sad a0.length scap a6) ?_;refine YR ?_;intros;refine GPW.ef (Ef.j0 (enc:=aj) (e:=p) rfl rfl rfl rfl rfl aK (bX _) ab ab) ae ?_;rintro _ _⟨ad3,cap3,rfl,rfl⟩;refine YR ?_;intros;refine GPW.ca (jY ad3 (a0++[p]).length cap3 (a0++[p]) rfl (by rw[aq,aM];omega) c5) ?_;rintro _ _⟨a2,a1,ys,rfl,b9,rfl⟩;refine YR ?_;intros;refine GPW.fct (gA (ad:=a2) (cap:=a1) (xs:=zset ys) (enc:=aj) (sz:=3) (E:=tLot)) ?_;rintro⟨b4,_⟩;refine GPW.efu (Ef.e8 (enc:=Stk.v) (e:=(⟨a2,a1,zset ys⟩:Stk)) rfl rfl rfl rfl) ?_;rintro _ _⟨rfl,rfl⟩;refine YR ?_;intros;refine⟨(i+1,gins mp p.1 ⟨a2,a1,zset ys⟩),⟨by dsimp only;omega,by dsimp only;rw[b2];exact a5 c3 ys b9 ⟨a2,a1,zset ys⟩ rfl b4,hg⟩,by dsimp only;omega,by dsimp only;rw[aY i];exact av,?_⟩;refine(Ent.frz a2).trans ?_;refine(Ent.at (A:=allP (fun p:Int×Stk=>stkP p.2) mp) (Ent.refl _)).trans ?_;refine(Ent.at (A:=isl aj 3 a2 (zset ys)) (lI (s:=⟨a2,a1,zset ys⟩) (k:=p.1))).trans ?_;simp only[chgL,cn,ledL,bR];exact ag
