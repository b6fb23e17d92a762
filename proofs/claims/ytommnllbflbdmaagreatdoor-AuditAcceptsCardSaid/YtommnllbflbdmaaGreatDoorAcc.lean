/- Lemmas. -/
import Derived.Test.YtommnllbflbdmaaGreatDoorAcb
import Derived.Test.YtommnllbflbdmaaGreatDoorAbn
set_option linter.all false
set_option maxHeartbeats 8000000
namespace Go.Proofs.YtommnllbflbdmaaGreatDoor
section
open Go.V
attribute [local irreducible] G GO GP GPW GPK Ev Ef EfR Ent CB GB V.Enters
abbrev Do:=ay8 [.ev 17,.ev 18,.ev 19,.ev 20,.ev 21,.ev 22,.ev 23,.ev 24,.ev 25,.ev 26,.ev 27,.ev 28,.ev 29,.ev 30,.ev 31]
abbrev Dn:=ay6 []
abbrev Dm:=ay8 [.ev 17]
def bX{φ ψ:Prop}(k:ψ)(h:Hid ψ→φ:=by intro k;(with_reducible apply G.d7);first|refine G.dr 131 4 Do (Hid.out k)|refine G.dr 131 6 Dn (Hid.out k)|refine G.dr 131 9 Dm (Hid.out k)):φ:=h ⟨k⟩
def XA{φ ψ:Prop}(k:ψ)(h:Hid ψ→φ:=by intro k;(repeat (first|refine aa ?_|intro zzz|refine G.dr 131 4 Do ?_|refine G.dr 131 6 Dn ?_|refine G.dr 131 9 Dm ?_));(repeat revert zzz);exact Hid.out k):φ:=h ⟨k⟩
def qg(bl bs:Nat)(ad:OA)(c:Nat)(l:LL)(sad:OA)(sc:Nat)(set:LL)(f0:l.length≤1000000)(e1:set.length≤1000000)(hw:∀x∈l,LotOk x)(hs:SetOk set) :
  Ez ai 326 [ax bl,ax bs] ((l.flatMap (pcs set)).map HC) [obj bl fL [ah ad l.length c],obj bs fL [ah sad set.length sc],isl aj 3 ad l,isl aj 3 sad set] []:=by
 intro i J Jx hy;rw[aA]
 have a7 : ∀D q R,l.flatMap (pcs set)=D++q::R→YTri ai i (HC q) [J D.length] (fun v L'=>(v=.bool true∧L' = [J (D.length+1)])∨(v=.bool false∧L' = [Jx D.length])):=by
  intro D q R e;have hk:D.length<(l.flatMap (pcs set)).length:=by rw[e,ay,bh];omega
  have h:=hy D.length (by rw[aA];exact hk);rw[dR] at h;have e2:(l.flatMap (pcs set))[D.length]=q:=(List.getElem_of_eq e hk).trans bZ;rw[e2] at h;exact h
 clear hy;have hV:∀k,k≤l.length→l.flatMap (pcs set)=(l.take k).flatMap (pcs set)++(l.drop k).flatMap (pcs set):=fun k _=>by rw[←dd,ew]
 obtain⟨V,d1⟩:∃V,l.flatMap (pcs set)=V:=⟨_,rfl⟩;rw[d1] at a7 hV ⊢;refine Tri.bd (args:=[.func (.yield i) #[] #[],ax bl,ax bs]) ?_;refine XA ?_;intros;refine G.loop (α:=Nat) (fun k=>k≤l.length) (fun k=>[(0,.func (.yield i) #[] #[]),(1,ax bl),(2,ax bs),(9,ah ad l.length c),(10,ac l.length),(11,ac (k:Int))]) (fun k=>[J ((l.take k).flatMap (pcs set)).length,obj bl fL [ah ad l.length c],obj bs fL [ah sad set.length sc],isl aj 3 ad l,isl aj 3 sad set]) (fun k=>l.length - k) 0 (aw _) av (Ent.refl _) ?_;intro k hk;by_cases c7:k<l.length
 case neg =>
  have d4:k=l.length:=ab;have e:(l.take k).flatMap (pcs set)=V:=by rw[d4,bu,d1]
  rw[e];refine XA ?_;intros;exact KX.e7 al (Ent.d7 (Ent.nil _)) (.inl rfl)
 have e4:(k:Int).toNat=k:=aC k;have b2 : (k:Int).toNat<l.length:=ab;obtain⟨x0,a6⟩:∃x0,l[(k:Int).toNat]! = x0:=⟨_,rfl⟩;have b8:LotOk x0:=by rw[←a6];exact hw _ (aI b2)
 have a4:l[k]! = x0:=by rw[←a6,e4]
 have hd:l.drop k=x0::l.drop (k+1):=by rw[eZ c7,a4]
 have b3:V=(l.take k).flatMap (pcs set)++(pcs set x0++(l.drop (k+1)).flatMap (pcs set)):=by
  have:=hV k hk
  rw[hd,bB] at this;exact this
 have c6:=hV (k+1) c7;obtain⟨R,hR⟩:∃R,(l.drop (k+1)).flatMap (pcs set)=R:=⟨_,rfl⟩;rw[hR] at b3 c6
 have a2:∀D,V=D++R→D.length=((l.take (k+1)).flatMap (pcs set)).length:=fun D e=>by
  have:=List.append_cancel_right (c6.symm.trans e)
  rw[this]
 refine XA ?_;intros;rw[a6];refine XA ?_;intros;rename_i bx;refine GO.ent (L':=obj bs fL [ah sad set.length sc]::obj bx tLot (aj x0)::[J ((l.take k).flatMap (pcs set)).length,obj bl fL [ah ad l.length c],isl aj 3 ad l,isl aj 3 sad set]) (by simp only[aj];exact ae) ?_;refine GO.ca (za bs bx sad sc set x0 b8.w hs e1) ?_;rintro _ _⟨i0,rfl,⟨a8,d2,c8⟩,rfl⟩;have b5:set.drop i0=skp x0 set:=wM x0 a8 d2 c8;have b0:=mT x0 hs.sl hs.ok;rw[←b5] at b0;have a9:V=(l.take k).flatMap (pcs set)++(pcz (set.drop i0) x0++R):=by rw[b5];exact b3
 generalize (l.take k).flatMap (pcs set)=D0 at a9;clear b5 d2 c8 b3;refine XA ?_;intros;refine G.loop (α:=Lot×Nat×List (Lot×Bool)) (fun g=>LotW g.1∧g.2.1≤set.length∧(∀y∈set.drop g.2.1,pzP g.1 y)∧V=g.2.2++(pcz (set.drop g.2.1) g.1++R)) (fun g=>[(0,.func (.yield i) #[] #[]),(1,ax bl),(2,ax bs),(5,ax bx),(6,ac (g.2.1:Int)),(9,ah ad l.length c),(10,ac l.length),(11,ac (k:Int))]) (fun g=>[J g.2.2.length,obj bl fL [ah ad l.length c],obj bs fL [ah sad set.length sc],obj bx tLot (aj g.1),isl aj 3 ad l,isl aj 3 sad set]) (fun g=>set.length - g.2.1) (x0,i0,D0) ⟨b8.w,a8,b0,a9⟩ av (by simp only[aj];exact ae) ?_;clear a9 b0 a8 b8 a6 a4 hd;rintro⟨x,j,D⟩ ⟨c5,hj,hh,a0⟩;dsimp only at c5 hj hh a0 ⊢;have b1:=c5;unfold LotW at b1;have e3:(j:Int).toNat=j:=aC j;have d3:set[j]! = set[(j:Int).toNat]!:=by rw[e3]
 have d0:j<set.length→LotOk set[(j:Int).toNat]!:=fun h=>by rw[←d3];exact hs.ok _ (aI h)
 have b7:j<set.length→set.drop j=set[(j:Int).toNat]!::set.drop (j+1):=fun h=>by rw[eZ h,d3]
 simp only[aj];repeat first|((fail_if_success (with_reducible refine G.atS 4 ?_));(with_reducible apply G.seq))|refine bW ?_|intro _|refine bX ?_
 refine G.d8 (α:=Unit) (fun _=>True) (fun _=>[(0,.func (.yield i) #[] #[]),(1,ax bl),(2,ax bs),(5,ax bx),(6,ac (j:Int)),(9,ah ad l.length c),(10,ac l.length),(11,ac (k:Int)),(50,.bool (dB (0<x.2.2∧j<set.length∧set[(j:Int).toNat]!.1=x.1∧set[(j:Int).toNat]!.2.1<x.2.1+x.2.2)))]) (fun _=>[J D.length,obj bl fL [ah ad l.length c],obj bs fL [ah sad set.length sc],obj bx tLot [ac x.1,ac x.2.1,ac x.2.2],isl aj 3 ad l,isl aj 3 sad set]) ?_ ?_
 ·by_cases c1:0<x.2.2
  case neg =>
   rw[aG (fun q=>c1 q.1)];refine XA ?_;intros;exact⟨(),trivial,av,Ent.refl _⟩
  by_cases c2:j<set.length
  case neg =>
   rw[aG (fun q=>c2 q.2.1)];refine XA ?_;intros;exact⟨(),trivial,av,Ent.refl _⟩
  have a1:=d0 c2;unfold LotOk at a1;by_cases c3:set[(j:Int).toNat]!.1=x.1
  case neg =>
   rw[aG (fun q=>c3 q.2.2.1)];refine XA ?_;intros;exact⟨(),trivial,av,Ent.refl _⟩
  rw[show dB (0<x.2.2∧j<set.length∧set[(j:Int).toNat]!.1=x.1∧set[(j:Int).toNat]!.2.1<x.2.1+x.2.2)=dB (set[(j:Int).toNat]!.2.1<x.2.1+x.2.2) from by rw[fE,fE];exact decide_eq_decide.2 ⟨fun q=>q.2.2.2,fun q=>⟨c1,c2,c3,q⟩⟩];refine XA ?_;intros;exact⟨(),trivial,av,Ent.refl _⟩
 rintro _ _;by_cases C:0<x.2.2∧j<set.length∧set[(j:Int).toNat]!.1=x.1∧set[(j:Int).toNat]!.2.1<x.2.1+x.2.2
 case neg =>
  rw[aG C];by_cases c1:0<x.2.2
  ·have d6:pcz (set.drop j) x=[(x,false)]:=by
    by_cases c2:j<set.length
    ·rw[b7 c2];exact oP c1 (fun q=>C ⟨c1,c2,q.1,q.2⟩)
    ·rw[bC ab];exact if_pos c1
   rw[d6] at a0;have a5:=a7 D (x,false) R a0;have he:=a2 (D++[(x,false)]) (by rw[a0];simp);rw[ay,aJ] at he;refine XA ?_;intros;refine GO.ent (Ent.at (A:=J D.length) (Ent.refl _)) ?_;((with_reducible apply GO.d7);refine GO.efR (EfR.yield (a5) rfl rfl cJ) ag ?_);rintro _ _⟨_,(⟨rfl,rfl⟩|⟨rfl,rfl⟩),hL⟩
   ·simp only[ao,an] at hL;subst hL;refine XA ?_;intros;refine⟨k+1,ab,ab,?_,?_⟩
    ·rw[show(((k+1:Nat)):Int)=(k:Int)+1 by omega];exact av
    ·rw[←he];exact ae
   ·simp only[ao,an] at hL;subst hL;refine XA ?_;intros;exact KX.d7 al (Ent.d7 (Ent.nil _)) (.inr ⟨D.length,rfl⟩)
  ·have he:=a2 D (by rw[a0,oO c1];rfl);refine XA ?_;intros;refine⟨k+1,ab,ab,?_,?_⟩
   ·rw[show(((k+1:Nat)):Int)=(k:Int)+1 by omega];exact av
   ·rw[←he];exact ae
 rw[aS C];obtain⟨c1,c2,c3,c4⟩:=C;have a1:=d0 c2;have c0:=hh set[(j:Int).toNat]! (by rw[b7 c2];exact aq);have b6:(set.drop j).Pairwise sl:=(hs.sl.sublist (List.drop_sublist j set));rw[b7 c2] at b6 a0 hh;rw[ey] at b6
 have e0:∀w∈set.drop (j+1),pzP (pz2 x set[(j:Int).toNat]!) w:=fun w hw=>by
  have h1:=b6.1 w hw;have h2:=hs.ok w (gM hw);unfold sl at h1;unfold LotOk at h2 a1;unfold pzP pz2 pzi pzo;dsimp only;omega
 rw[qT ⟨c1,c3,c4⟩] at a0
 have d5:LotW (pz2 x set[(j:Int).toNat]!):=by
  unfold LotOk at a1;unfold pzP at c0;unfold LotW pz2 pzi pzo;dsimp only;omega
 have ho:0≤pzo x set[(j:Int).toNat]!∧pzo x set[(j:Int).toNat]! < x.2.2∧0<pzi x set[(j:Int).toNat]!∧pzi x set[(j:Int).toNat]!≤x.2.2 - pzo x set[(j:Int).toNat]!:=by
  unfold LotOk at a1;unfold pzP at c0;unfold pzi pzo;omega
 have eo:max 0 (set[(j:Int).toNat]!.2.1 - x.2.1)=pzo x set[(j:Int).toNat]!:=rfl;have ei:min (x.2.2 - pzo x set[(j:Int).toNat]!) (set[(j:Int).toNat]!.2.1+set[(j:Int).toNat]!.2.2 - (x.2.1+pzo x set[(j:Int).toNat]!))=pzi x set[(j:Int).toNat]!:=rfl;have e2:pz2 x set[(j:Int).toNat]! = (x.1,x.2.1+pzo x set[(j:Int).toNat]! + pzi x set[(j:Int).toNat]!,x.2.2 - pzo x set[(j:Int).toNat]! - pzi x set[(j:Int).toNat]!):=rfl;unfold LotOk at a1;repeat first|((fail_if_success (with_reducible refine G.atS 6 ?_));(with_reducible apply G.seq))|refine bW ?_|intro _|refine bX ?_
 refine G.d8 (α:=Unit) (fun _=>True) (fun _=>[(0,.func (.yield i) #[] #[]),(1,ax bl),(2,ax bs),(5,ax bx),(6,ac (j:Int)),(7,ac (pzo x set[(j:Int).toNat]!)),(9,ah ad l.length c),(10,ac l.length),(11,ac (k:Int))]) (fun _=>[J D.length,obj bl fL [ah ad l.length c],obj bs fL [ah sad set.length sc],obj bx tLot [ac x.1,ac x.2.1,ac x.2.2],isl aj 3 ad l,isl aj 3 sad set]) ?_ ?_
 ·rw[←eo];refine XA ?_;intros;exact⟨(),trivial,av,Ent.refl _⟩
 rintro _ _;obtain⟨o,b4⟩:∃o,pzo x set[(j:Int).toNat]! = o:=⟨_,rfl⟩;obtain⟨q,c9⟩:∃q,pzi x set[(j:Int).toNat]! = q:=⟨_,rfl⟩;rw[b4,c9] at ho e2 ei;rw[b4,c9] at a0;rw[b4];clear eo;obtain⟨f2,f1,e6,e5⟩:=ho;obtain⟨D1,a3⟩:∃D1,D1=D++(if 0<o then[(((x.1,x.2.1,o):Lot),false)] else[]):=⟨_,rfl⟩;repeat first|((fail_if_success (with_reducible refine G.d9 7 ?_));(with_reducible apply G.seq))|refine bW ?_|intro _|refine bX ?_
 refine G.d8 (α:=Unit) (fun _=>True) (fun _=>[(0,.func (.yield i) #[] #[]),(1,ax bl),(2,ax bs),(5,ax bx),(6,ac (j:Int)),(7,ac o),(9,ah ad l.length c),(10,ac l.length),(11,ac (k:Int))]) (fun _=>[J D1.length,obj bl fL [ah ad l.length c],obj bs fL [ah sad set.length sc],obj bx tLot [ac x.1,ac x.2.1,ac x.2.2],isl aj 3 ad l,isl aj 3 sad set]) ?_ ?_
 ·by_cases h0:0<o
  ·rw[if_pos h0] at a3 a0;have a5:=a7 D ((x.1,x.2.1,o),false) _ a0;refine XA ?_;intros;refine GO.ent (Ent.at (A:=J D.length) (Ent.refl _)) ?_;((with_reducible apply GO.d7);refine GO.efR (EfR.yield (a5) rfl rfl cJ) ag ?_);rintro _ _⟨_,(⟨rfl,rfl⟩|⟨rfl,rfl⟩),hL⟩
   ·simp only[ao,an] at hL;subst hL;refine XA ?_;intros;refine⟨(),trivial,av,?_⟩;rw[a3,ay,aJ];exact Ent.refl _
   ·simp only[ao,an] at hL;subst hL;refine XA ?_;intros;exact KX.d7 al (Ent.d7 (Ent.nil _)) (.inr ⟨D.length,rfl⟩)
  ·rw[if_neg h0,aQ] at a3;refine XA ?_;intros;refine⟨(),trivial,av,?_⟩;rw[a3];exact Ent.refl _
 rintro _ _
 have b9:V=D1++(((x.1,x.2.1+o,q),true)::(pcz (set.drop (j+1)) (pz2 x set[(j:Int).toNat]!)++R)):=by
  rw[a0,a3];simp only[aH,ao]
 have a5:=a7 D1 ((x.1,x.2.1+o,q),true) _ b9;repeat first|((fail_if_success (with_reducible refine G.atS 9 ?_));(with_reducible apply G.seq))|refine bW ?_|intro _|refine bX ?_
 refine G.d8 (α:=Unit) (fun _=>True) (fun _=>[(0,.func (.yield i) #[] #[]),(1,ax bl),(2,ax bs),(5,ax bx),(6,ac (j:Int)),(8,ac q),(9,ah ad l.length c),(10,ac l.length),(11,ac (k:Int))]) (fun _=>[J D1.length,obj bl fL [ah ad l.length c],obj bs fL [ah sad set.length sc],obj bx tLot [ac x.1,ac (x.2.1+o),ac (x.2.2 - o)],isl aj 3 ad l,isl aj 3 sad set]) ?_ ?_
 ·rw[←ei];refine XA ?_;intros;exact⟨(),trivial,av,by exact ae⟩
 rintro _ _;refine XA ?_;intros;refine GO.ent (Ent.at (A:=J D1.length) (Ent.refl _)) ?_;((with_reducible apply GO.d7);refine GO.efR (EfR.yield (a5) rfl rfl cJ) ag ?_);rintro _ _⟨_,(⟨rfl,rfl⟩|⟨rfl,rfl⟩),hL⟩
 ·simp only[ao,an] at hL;subst hL;refine XA ?_;intros;refine⟨(pz2 x set[(j:Int).toNat]!,j+1,D1++[((x.1,x.2.1+o,q),true)]),⟨d5,by dsimp only;omega,e0,by dsimp only;rw[b9];simp⟩,by dsimp only;omega,?_,?_⟩
  ·dsimp only;rw[show(((j+1:Nat)):Int)=(j:Int)+1 by omega];exact av
  ·dsimp only;rw[ay,aJ,e2];simp only[aj];exact ae
 ·simp only[ao,an] at hL;subst hL;refine XA ?_;intros;exact KX.d7 al (Ent.d7 (Ent.nil _)) (.inr ⟨D1.length,rfl⟩)
end
section
open Go.V
def pcI(l set:LL):LL:=(pcIn (l.flatMap (pcs set))).foldl aY []
def pcO(l set:LL):LL:=(gD (l.flatMap (pcs set))).foldl aY []
def Fs(l:List (Lot×Bool))(q:Lot×Bool):pcIn (l++[q])=pcIn l++(if q.2=true then[q.1] else[]):=by
 rw[xH];obtain⟨x,b⟩:=q;cases b<;>rfl
def tE(l:List (Lot×Bool))(q:Lot×Bool):gD (l++[q])=gD l++(if q.2=true then[] else[q.1]):=by
 rw[nr];obtain⟨x,b⟩:=q;cases b<;>rfl
def Ih{l set:LL}(hs:SetOk set)(hw:∀x∈l,LotOk x):(∀q∈l.flatMap (pcs set),LotOk q.1)∧(l.flatMap (pcs set)).length≤l.length*(2*set.length+1):=by
 induction l with
 | nil=>exact⟨(fun q h=>by cases h),by simp⟩
 | cons x l ih =>
  obtain⟨i1,i2⟩:=ih (fun y hy=>hw y (au _ hy));obtain⟨p1,p2⟩:=Fr hs (hw x aq);rw[bB];refine⟨fun q hq=>?_,?_⟩
  ·rcases List.mem_append.1 hq with h|h
   ·exact p1 q h
   ·exact i1 q h
  ·rw[ay,bh,Nat.succ_mul];omega
def Ii(l:List (Lot×Bool)):(pcIn l).length≤l.length∧(gD l).length≤l.length:=by
 unfold pcIn gD;rw[aA,aA];exact⟨gc _ _,gc _ _⟩
def GQ{l:List (Lot×Bool)}(h:∀q∈l,LotOk q.1):(∀x∈pcIn l,LotW x)∧∀x∈gD l,LotW x:=by
 constructor
 ·intro x hx;obtain⟨q,hq,rfl⟩:=List.mem_map.1 hx;exact(h q (List.mem_filter.1 hq).1).w
 ·intro x hx;obtain⟨q,hq,rfl⟩:=List.mem_map.1 hx;exact(h q (List.mem_filter.1 hq).1).w
attribute [local irreducible] G GO GP GPW GPK Ev Ef EfR Ent CB GB V.Enters
abbrev Dl:List Stp:=[.ev 0,.ev 1,.ef 2,.ef 3]
def eV{φ ψ:Prop}(k:ψ)(h:Hid ψ→φ:=by intro k;first|refine GO.ci (f:=304) (Hid.out k)|refine GPW.ci (f:=304) (Hid.out k)|refine GO.cf (f:=304) rfl (Hid.out k)|refine GPW.cf (f:=304) rfl (Hid.out k)|refine KX.inA (Hid.out k)):φ:=h ⟨k⟩
def gW{φ ψ:Prop}(k:ψ)(h:Hid ψ→φ:=by intro k;(with_reducible apply G.d7);first|refine G.dr 22 7 Dl (Hid.out k)):φ:=h ⟨k⟩
def qD(ad:OA)(c:Nat)(l:LL)(sad:OA)(sc:Nat)(set:LL)(a4:l.length≤4500)(a9:set.length≤4500)(hw:∀x∈l,LotOk x)(hs:SetOk set) :
  Tri ai 288 #[ah ad l.length c,ah sad set.length sc] [isl aj 3 ad l,isl aj 3 sad set] (fun v L'=>∃a0 c1 ad2 c2,v=.tuple #[ah a0 (pcI l set).length c1,ah ad2 (pcO l set).length c2]∧L' = [osl aj 3 tLot a0 c1 (pcI l set),osl aj 3 tLot ad2 c2 (pcO l set)]):=by
 obtain⟨hq,a7⟩:=Ih hs hw;have a3:l.length*(2*set.length+1)≤4500*9001:=Nat.mul_le_mul a4 ab;unfold pcI pcO;have a2:=fun bl bs=>qg bl bs ad c l sad sc set ab ab hw hs;generalize l.flatMap (pcs set)=V at *;refine Tri.bd ?_;repeat first|refine aa ?_|intro _|refine gW ?_|refine eV ?_
 rename_i b4 b5 bx bf;refine G.f8 (a2 bx bf) rfl en326.1 ag ?_ (fun k=>[stkO b4 ((pcIn (V.take k)).foldl aY []),stkO b5 ((gD (V.take k)).foldl aY [])]) ?_ ?_ ?_
 ·intro vs a6;obtain⟨q,_,rfl⟩:=List.mem_map.1 a6;rfl
 ·simp only[ao,an,bH];rw[show(pcIn []).foldl aY []=[] from rfl,show(gD []).foldl aY []=[] from rfl];refine Ent.trans ?_ (Ent.j0 (none,0) (f:=stkA b4 []) (Ent.refl _));refine Ent.trans ?_ (Ent.append (Ent.refl (stkA b4 [] (none,0))) (Ent.j0 (none,0) (f:=stkA b5 []) (Ent.refl _)));simp only[stkA,cQ,ao,an];refine Ent.trans (Ent.d8 aj 3 tLot) (Ent.trans (Ent.d8 aj 3 tLot) ?_);exact ae
 ·intro k hk;rw[aA] at hk;rw[dR];have a5:V.take (k+1)=V.take k++[V[k]]:=aD hk;have a1:=hq _ (ed hk);obtain⟨l1,l2⟩:=Ii (V.take k);obtain⟨w1,w2⟩:=GQ (l:=V.take k) (fun q h=>hq q (dv h));have a8:(V.take k).length≤41000000:=by rw[bG];omega
  have g1:=jd (pcIn (V.take k)) [];have g2:=jd (gD (V.take k)) [];have g3:=kE (l:=[]) (xs:=pcIn (V.take k)) (fun _ h=>by cases h) w1;have g4:=kE (l:=[]) (xs:=gD (V.take k)) (fun _ h=>by cases h) w2;rw[cQ] at g1 g2;rw[a5,Fs,tE,cv,cv];generalize (pcIn (V.take k)).foldl aY []=T at *;generalize (gD (V.take k)).foldl aY []=R at *;generalize V[k]=q at a1 ⊢;obtain⟨x,b⟩:=q;dsimp only at a1 ⊢;cases b with
  | true =>
   show G _ _ _ ((12,.bool true)::(11,aN (aj x))::_) _ _;rw[if_pos rfl,if_pos rfl];refine G.e7 (f:=stkA b4 T) ?_;rintro⟨a0,c1⟩;simp only[stkA,ao,an,fU,List.foldl_nil];repeat first|refine aa ?_|intro _|refine gW ?_|refine eV ?_
   refine GO.ent (Ent.at (A:=osl aj 3 tLot a0 c1 T) (Ent.refl _)) ?_;refine GO.ca (uX a0 c1 T x ab g3 a1.w) ?_;rintro _ _⟨ad2,c2,rfl,rfl⟩;repeat first|refine aa ?_|intro _|refine gW ?_|refine eV ?_
   refine KX.round ?_;refine Ent.trans ?_ (Ent.j0 (ad2,c2) (f:=stkA b4 (aY T x)) (Ent.refl _));simp only[stkA,ao,an];exact ae
  | false =>
   show G _ _ _ ((12,.bool false)::(11,aN (aj x))::_) _ _;rw[if_neg ag,if_neg ag];refine G.ent Ent.swap ?_;refine G.e7 (f:=stkA b5 R) ?_;rintro⟨a0,c1⟩;simp only[stkA,ao,an,fU,List.foldl_nil];repeat first|refine aa ?_|intro _|refine gW ?_|refine eV ?_
   refine GO.ent (Ent.at (A:=osl aj 3 tLot a0 c1 R) (Ent.refl _)) ?_;refine GO.ca (uX a0 c1 R x ab g4 a1.w) ?_;rintro _ _⟨ad2,c2,rfl,rfl⟩;repeat first|refine aa ?_|intro _|refine gW ?_|refine eV ?_
   refine KX.round ?_;refine Ent.trans ?_ (Ent.swap (A:=stkO b5 (aY R x)));refine Ent.trans ?_ (Ent.j0 (ad2,c2) (f:=stkA b5 (aY R x)) (Ent.refl _));simp only[stkA,ao,an];exact ae
 ·rw[aA,bu];generalize (pcIn V).foldl aY []=T;generalize (gD V).foldl aY []=R;simp only[aQ];refine KX.d8 (KX.g8 ?_);refine G.e7 (f:=stkA b4 T) ?_;rintro⟨a0,c1⟩;refine G.ent (L':=stkO b5 R::stkA b4 T (a0,c1)) (Ent.perm (by simp only[stkA,ao,an];exact(List.Perm.cons _ (List.Perm.swap _ _ _)).trans (List.Perm.swap _ _ _))) ?_;refine G.e7 (f:=stkA b5 R) ?_;rintro⟨ad2,c2⟩;simp only[stkA,ao,an];repeat first|refine aa ?_|intro _|refine gW ?_|refine eV ?_
  refine KX.d7 (vs:=[ah a0 T.length c1,ah ad2 R.length c2]) (ResOk.d7 rfl (ResOk.d7 rfl ResOk.nil)) ?_ ⟨a0,c1,ad2,c2,rfl,rfl⟩;exact ae
def Ce(ad:OA)(c:Nat)(l:LL)(sad:OA)(sc:Nat)(set:LL)(a3:l.length≤4500)(a4:set.length≤4500)(hw:∀x∈l,LotOk x)(hs:SetOk set) :
  Tri ai 303 #[ah ad l.length c,ah sad set.length sc] [isl aj 3 ad l,isl aj 3 sad set] (fun v L'=>v=.bool (dB (gD (l.flatMap (pcs set))=[]))∧L' = []):=by
 have a0:=fun bl bs=>qg bl bs ad c l sad sc set ab ab hw hs;generalize l.flatMap (pcs set)=V at *;refine Tri.bd ?_;repeat first|refine aa ?_|intro _|refine eV ?_
 rename_i b4 bx bf;refine G.f8 (a0 bx bf) rfl en326.1 ag ?_ (fun k=>[dz (gD (V.take k)=[]),obj b4 4 [.bool false]]) ?_ ?_ ?_
 ·intro vs a2;obtain⟨q,_,rfl⟩:=List.mem_map.1 a2;rfl
 ·simp only[ao,an,bH];refine Ent.trans ?_ (Ent.pure rfl (Ent.refl _));exact ae
 ·intro k hk;rw[aA] at hk;rw[dR];have a1:V.take (k+1)=V.take k++[V[k]]:=aD hk;have hV:V=V.take k++(V[k]::V.drop (k+1)):=by rw[←eh hk,ew]
  generalize V[k]=q at *;obtain⟨x,b⟩:=q;refine G.e8 ?_;intro hp;cases b with
  | true =>
   show G _ _ _ ((11,.bool true)::_) _ _;repeat first|refine aa ?_|intro _|refine eV ?_
   refine KX.round ?_;rw[a1,tE,hp];refine Ent.trans ?_ (Ent.pure rfl (Ent.refl _));exact Ent.refl _
  | false =>
   show G _ _ _ ((11,.bool false)::_) _ _
   have hn:¬gD V=[]:=fun h=>by
    rw[hV,nr] at h;have h2:=(List.append_eq_nil_iff.1 h).2;cases h2
   repeat first|refine aa ?_|intro _|refine eV ?_
   refine KX.l7 ?_;simp only[aQ];repeat first|refine aa ?_|intro _|refine eV ?_
   refine KX.d7 (vs:=[.bool false]) (ResOk.d7 rfl ResOk.nil) (Ent.nil _) ⟨by rw[aG hn];rfl,rfl⟩
 ·rw[aA,bu];simp only[aQ];refine KX.d8 (KX.g8 ?_);refine G.e8 ?_;intro hp;rw[aS hp];repeat first|refine aa ?_|intro _|refine eV ?_
  exact KX.d7 (vs:=[.bool true]) (ResOk.d7 rfl ResOk.nil) (Ent.nil _) ⟨rfl,rfl⟩
end
section
open Go.V
def oR{zs:LL}(hs:SetOk zs):∀{l:LL},(∀x∈l,LotOk x)→gD (l.flatMap (pcs zs))=l.flatMap (eM zs)
 | [],_=>rfl
 | x::l,h=>by
  rw[bB,bB,nr,Ig hs (h x aq),oR hs (fun y hy=>h y (au _ hy))]
def qd{ps zs:LL}(hp:∀y∈ps,LotOk y)(hz:∀y∈zs,LotOk y)(h:∀f a,hasU ps f a↔hasU zs f a):∀{l:LL},(∀x∈l,LotOk x)→l.flatMap (eM zs)=l.flatMap (eM ps)
 | [],_=>rfl
 | x::l,hl=>by
  rw[bB,bB,Fc hp hz h (hl x aq),qd hp hz h (fun y hy=>hl y (au _ hy))]
def EI{ps own ys:LL}(h1:dM ps)(ha:Apart ps)(h2:dM own)(ho:Apart own)(hy:ez hdC own ys):gD (ps.flatMap (pcs (zset ys)))=[]↔fF ps own:=by
 obtain⟨s1,_,_,s4⟩:=lA hy h2.1;have hu:=fun f a=>(BW s1.ok h2.1 (s4 ho) f a).symm;rw[oR s1 h1.1,qd h2.1 s1.ok hu h1.1,oz h1 ha h2 ho];have e:ps.flatMap (eM own)=own.foldl subL ps:=(lM own ps).symm
 have a1:∀x∈ps.flatMap (eM own),LotOk x:=fun x hx=>by
  obtain⟨y,hy,hx⟩:=List.mem_flatMap.1 hx;exact(mZ h2.1 (h1.1 y hy)).1 x hx
 rw[e] at a1 ⊢;have a0:=uF h2.1 h1.1 ho;rw[←a0];constructor
 ·intro h;rw[h,ir]
 ·intro h;cases hm:own.foldl subL ps with
  | nil=>rfl
  | cons x l =>
   rw[hm] at h a1;have:=jk a1 (Nat.zero_lt_succ l.length)
   omega
def Cc{s ps ys:LL}(hs:∀x∈s,LotOk x)(hp:∀x∈ps,LotOk x)(ha:Apart ps)(hy:ez hdC ps ys):pcO s (zset ys)=dP s ps:=by
 obtain⟨s1,_,_,s4⟩:=lA hy hp;have hu:=fun f a=>(BW s1.ok hp (s4 ha) f a).symm;unfold pcO dP;rw[oR s1 hs,qd hp s1.ok hu hs,pg]
attribute [local irreducible] G GO GP GPW GPK Ev Ef EfR Ent CB GB V.Enters
def eU{φ ψ:Prop}(k:ψ)(h:Hid ψ→φ:=by intro k;first|refine GO.ci (f:=267) (Hid.out k)|refine GPW.ci (f:=267) (Hid.out k)|refine GO.cf (f:=267) rfl (Hid.out k)|refine GPW.cf (f:=267) rfl (Hid.out k)|refine KX.inA (Hid.out k)):φ:=h ⟨k⟩
def xO{L:LH}(ad:OA)(n c:Nat)(xs:LL)[Rds L ad Lot aj 3 xs](hn:n=xs.length)(hm:n≤9223372036854775807) :
  Tri ai 261 #[ah ad n c] L (fun v L'=>v=.bool (dB (dM xs))∧L' = L):=by
 subst hn;refine Tri.bd ?_;by_cases hb:xs.length≤4096
 case neg =>
  rw[aG (fun q:dM xs=>hb q.2)];repeat first|refine aa ?_|intro _|refine eU ?_
  exact KX.en ⟨rfl,rfl⟩
 repeat first|refine aa ?_|intro _|refine eU ?_
 refine G.loop (α:=Nat) (fun i=>i≤xs.length∧∀k,k<i→LotOk xs[k]!) (fun i=>[(0,ah ad xs.length c),(8,ah ad xs.length c),(9,ac xs.length),(10,ac (i:Int))]) (fun _=>L) (fun i=>xs.length - i) 0 ⟨aw _,fun k hk=>absurd hk (cl k)⟩ av (Ent.refl _) ?_;rintro i ⟨hi,a4⟩;by_cases a5:i<xs.length
 case neg =>
  have a1:∀x∈xs,LotOk x:=fun x hx=>by
   obtain⟨k,hk,e⟩:=List.mem_iff_getElem.1 hx;have h2:=a4 k ab;rw[getElem!_of hk,e] at h2;exact h2
  rw[aS (show dM xs from⟨a1,hb⟩)];repeat first|refine aa ?_|intro _|refine eU ?_
  exact KX.en ⟨rfl,rfl⟩
 have a6:(i:Int).toNat=i:=aC i;have a2:=aI a5
 have a3:LotOk xs[i]!→∀k,k<i+1→LotOk xs[k]!:=fun h k hk=>by
  by_cases e:k=i
  ·rw[e];exact h
  ·exact a4 k ab
 have a0:¬LotOk xs[i]!→¬dM xs:=fun h q=>h (q.1 _ a2);rw[show xs[i]! = xs[(i:Int).toNat]! by rw[a6]] at a3 a0;by_cases o1:0≤xs[(i:Int).toNat]!.1
 case neg =>
  rw[aG (a0 (fun q=>o1 q.1))];repeat first|refine aa ?_|intro _|refine eU ?_
  exact KX.en ⟨rfl,rfl⟩
 by_cases o2:0≤xs[(i:Int).toNat]!.2.1
 case neg =>
  rw[aG (a0 (fun q=>o2 q.2.1))];repeat first|refine aa ?_|intro _|refine eU ?_
  exact KX.en ⟨rfl,rfl⟩
 by_cases o3:xs[(i:Int).toNat]!.2.1≤1099511627776
 case neg =>
  rw[aG (a0 (fun q=>o3 q.2.2.1))];repeat first|refine aa ?_|intro _|refine eU ?_
  exact KX.en ⟨rfl,rfl⟩
 by_cases o4:1≤xs[(i:Int).toNat]!.2.2
 case neg =>
  rw[aG (a0 (fun q=>o4 q.2.2.2.1))];repeat first|refine aa ?_|intro _|refine eU ?_
  exact KX.en ⟨rfl,rfl⟩
 by_cases o5:xs[(i:Int).toNat]!.2.2≤1099511627776 - xs[(i:Int).toNat]!.2.1
 case neg =>
  rw[aG (a0 (fun q=>o5 q.2.2.2.2))];repeat first|refine aa ?_|intro _|refine eU ?_
  rw[aG o5];repeat first|refine aa ?_|intro _|refine eU ?_
  exact KX.en ⟨rfl,rfl⟩
 repeat first|refine aa ?_|intro _|refine eU ?_
 rw[aS o5];repeat first|refine aa ?_|intro _|refine eU ?_
 refine⟨i+1,⟨ab,a3 ⟨o1,o2,o3,o4,o5⟩⟩,ab,?_,by exact ae⟩;rw[aV i];exact av
def xV{L:LH}(pad:OA)(pc:Nat)(ps:LL)(sad:OA)(sc:Nat)(own:LL)(h1:dM ps)(ha:Apart ps)(h2:dM own)(ho:Apart own) :
  Tri ai 285 #[ah pad ps.length pc,ah sad own.length sc] (isl aj 3 pad ps::isl aj 3 sad own::L) (fun v L'=>v=.bool (dB (fF ps own))∧L' = isl aj 3 pad ps::isl aj 3 sad own::L):=by
 refine Tri.bd ?_;refine Jq ?_;intros;refine GO.cr (iv pad ps.length pc ps rfl h1.2 h1.1) ?_;refine Jq ?_;intros;refine GO.cr (iv sad own.length sc own rfl h2.2 h2.1) ?_;refine Jq ?_;intros;refine GO.ca (ka sad own.length sc own rfl (by have:=h2.2;omega) h2.1) ?_;rintro _ _⟨a0,zc,ys,rfl,a1,rfl⟩;obtain⟨s1,s2,_,_⟩:=lA a1 h2.1;refine Jq ?_;intros;refine GO.ent (L':=[isl aj 3 pad ps,isl aj 3 a0 (zset ys)]++(isl aj 3 pad ps::isl aj 3 sad own::L)) ((Ent.at (A:=isl aj 3 pad ps) (Ent.dup (bN _ _ _ _).pers)).trans ((Ent.at (A:=osl aj 3 tLot a0 zc (zset ys)) Ent.freezeSl).trans (by simp only[ao,an];exact ae))) ?_;simp only[ao,an];(first|refine GO.ef (Ef.call (Ce pad pc ps a0 zc (zset ys) (by have:=h1.2;omega) (by have:=h2.2;omega) h1.1 s1) rfl cJ) ag ?_);rintro _ _⟨_,⟨rfl,rfl⟩,hL⟩;simp only[ao,an] at hL;subst hL;refine Jq ?_;intros;refine KX.d7 al (Ent.refl _) ⟨?_,rfl⟩;rw[show dB (gD (ps.flatMap (pcs (zset ys)))=[])=dB (fF ps own) by rw[fE,fE];exact decide_eq_decide.2 (EI h1 ha h2 ho a1)];rfl
def vW{L:LH}(sad:OA)(sc:Nat)(s:LL)(pad:OA)(pc:Nat)(ps:LL)(h1:dM ps)(ha:Apart ps)(h2:dM s) :
  Tri ai 286 #[ah sad s.length sc,ah pad ps.length pc] (isl aj 3 pad ps::isl aj 3 sad s::L) (fun v L'=>∃a1 c',v=ah a1 (dP s ps).length c'∧L' = osl aj 3 tLot a1 c' (dP s ps)::isl aj 3 pad ps::isl aj 3 sad s::L):=by
 refine Tri.bd ?_;refine Jq ?_;intros;refine GO.cr (iv sad s.length sc s rfl h2.2 h2.1) ?_;refine Jq ?_;intros;refine GO.cr (iv pad ps.length pc ps rfl h1.2 h1.1) ?_;refine Jq ?_;intros;refine GO.ca (ka pad ps.length pc ps rfl (by have:=h1.2;omega) h1.1) ?_;rintro _ _⟨a0,zc,ys,rfl,a2,rfl⟩;obtain⟨s1,s2,_,_⟩:=lA a2 h1.1;refine Jq ?_;intros;refine GO.ent (L':=[isl aj 3 sad s,isl aj 3 a0 (zset ys)]++(isl aj 3 pad ps::isl aj 3 sad s::L)) ((Ent.at (A:=isl aj 3 sad s) (Ent.dup (bN _ _ _ _).pers)).trans ((Ent.at (A:=osl aj 3 tLot a0 zc (zset ys)) Ent.freezeSl).trans (by simp only[ao,an];exact ae))) ?_;simp only[ao,an];(first|refine GO.ef (Ef.call (qD sad sc s a0 zc (zset ys) (by have:=h2.2;omega) (by have:=h1.2;omega) h2.1 s1) rfl cJ) ag ?_);rintro _ _⟨_,⟨a3,c1,ad2,c2,rfl,rfl⟩,hL⟩;simp only[ao,an] at hL;subst hL;rw[Cc h2.1 h1.1 ha a2];refine Jq ?_;intros;exact KX.en ⟨ad2,c2,rfl,rfl⟩
end
section
open Go.V
structure ChG where
 cs:Nat
 ct:Nat
 ci:Nat
 cr:Nat
 stk:List ((Int×Int)×Stk)
 tot:List (Int×Int)
 imp:List (Int×Stk)
 ret:List (Int×Stk)
 flows:List FlV
 fad:OA
 fcap:Nat
 sunk:List Int
 kad:OA
 kcap:Nat
abbrev cn(b:Nat)(s:StV)(z:ChG):LV:=[ax b,ac s.id,ac s.kind,ac s.actor,ac s.tick,ac s.rule,ac s.times,ah s.mad s.moves.length s.mcap,.map (some z.cs),.map (some z.ct),.map (some z.ci),.map (some z.cr),ah z.fad z.flows.length z.fcap,ah z.kad z.sunk.length z.kcap]
abbrev chgL(b bc:Nat)(s:StV)(z:ChG)(L:LH):LH :=
 obj bc tCh (cn b s z)::gmap kvP Stk.v z.cs z.stk::gmap kvI encN z.ct z.tot::gmap kvI Stk.v z.ci z.imp::gmap kvI Stk.v z.cr z.ret::osl bL 11 cz z.fad z.fcap z.flows::osl (encZ .i64) 1 tInt z.kad z.kcap z.sunk::allP (fun p:(Int×Int)×Stk=>stkP p.2) z.stk::allP flP z.flows::allP (fun p:Int×Stk=>stkP p.2) z.imp::allP (fun p:Int×Stk=>stkP p.2) z.ret::L
def uOf{κ:Type}[DecidableEq κ](z x:List (κ×Stk))(k:κ):Stk:=(glk z k).getD (eA x k)
def qO{κ:Type}[DecidableEq κ]{z x:List (κ×Stk)}(k:κ){L:LH}:Ent (allP (fun p:κ×Stk=>stkP p.2) z::allP (fun p:κ×Stk=>stkP p.2) x::L) (stkP (uOf z x k)::allP (fun p:κ×Stk=>stkP p.2) z::allP (fun p:κ×Stk=>stkP p.2) x::L):=by
 unfold uOf;cases h:glk z k with
 | none=>exact(Ent.d7 (nm k)).trans Ent.swap
 | some s=>exact Ent.e7 (f:=fun p:κ×Stk=>stkP p.2) (x:=(k,s)) (iS h)
def lI{κ:Type}[DecidableEq κ]{m:List (κ×Stk)}{k:κ}{s:Stk}{L:LH}:Ent (stkP s::allP (fun p:κ×Stk=>stkP p.2) m::L) (allP (fun p:κ×Stk=>stkP p.2) (gins m k s)::L) :=
 (Ent.g9 (f:=fun p:κ×Stk=>stkP p.2) (fun p=>mR p.2) (x:=(k,s)) (l:=m)).trans (Ent.l5 (l':=gins m k s) pb)
def kN{κ:Type}[DecidableEq κ]{z x:List (κ×Stk)}{k q:κ}{s:Stk}:uOf (gins z k s) x q=if q=k then s else uOf z x q:=by
 unfold uOf;rw[ke];split<;>rfl
structure SetS (g:Int→Stk) (l:LL):Prop where
 ok:∀f,SetOk (g f).lots
 cap:∀f,(g f).lots.length≤(g f).cap
 len:∀f,(g f).lots.length≤l.length
 ov:∀f t,LotOk t→t.1=f→OV (g f).lots t=OV (ofF l f) t
def wO{g:Int→Stk}{l:LL}(h:SetS g l)(hl:∀y∈l,LotOk y){p:Lot}(hp:LotOk p):(∃y∈(g p.1).lots,¬apart y p)↔∃y∈ofF l p.1,ovP p y:=by
 rw[←ub (h.ok p.1).ok hp,h.ov p.1 p hp rfl,ub (fun y hy=>hl y (ofF_mem.1 hy).1) hp];constructor
 ·rintro⟨y,hy,hn⟩;have:=(ofF_mem.1 hy).2
  refine⟨y,hy,?_⟩;unfold apart at hn;unfold ovP;omega
 ·rintro⟨y,hy,hn⟩;have:=(ofF_mem.1 hy).2
  refine⟨y,hy,?_⟩;unfold ovP at hn;unfold apart;omega
def By{set:LL}(hs:SetOk set){p:Lot}(hp:LotOk p):0<(pcI [p] set).length↔∃y∈set,¬apart y p:=by
 rw[←IK hs hp];have e:pcI [p] set=(pcIn (pcs set p)).foldl aY []:=by unfold pcI;rw[kL]
 rw[e]
 have hw:∀x∈pcIn (pcs set p),1≤x.2.2:=fun x hx=>by
  obtain⟨q,hq,rfl⟩:=List.mem_map.1 hx;have:=(Fr hs hp).1 q (List.mem_filter.1 hq).1
  unfold LotOk at this;omega
 generalize pcIn (pcs set p)=P at hw;cases P with
 | nil=>exact⟨fun h=>absurd h ag,fun h=>absurd rfl h⟩
 | cons x P =>
  have h1:=hw x aq;have hx:aY [] x=[x]:=by unfold aY;rw[if_neg ab,if_neg (fun q=>q.1 rfl)];rfl
  have a0:∀(P l:LL),0<l.length→0<(P.foldl aY l).length:=by
   intro P;induction P with
   | nil=>intro l h;exact h
   | cons y P ih =>
    intro l h;refine ih _ ?_;unfold aY;split
    ·exact h
    ·split
     ·rw[cu];exact h
     ·rw[ay];omega
  refine⟨fun _ h=>(by cases h),fun _=>?_⟩;show 0<(P.foldl aY (aY [] x)).length;rw[hx];exact a0 P [x] (by rw[aJ];exact Nat.one_pos)
def wP{g:Int→Stk}{l:LL}(h:SetS g l)(hl:∀y∈l,LotOk y){p:Lot}(hp:LotOk p)(hn:¬ ∃y∈(g p.1).lots,¬apart y p){ys:LL}(hy:ez hdC ((g p.1).lots++[p]) ys){g' : Int→Stk}(h1:(g' p.1).lots=zset ys)(hc:(zset ys).length≤(g' p.1).cap)(h2:∀f,f≠p.1→g' f=g f):SetS g' (l++[p]):=by
 have a1:∀x∈(g p.1).lots++[p],LotOk x:=fun x hx=>by
  rcases List.mem_append.1 hx with q|q
  ·exact(h.ok p.1).ok x q
  ·rw[List.mem_singleton.1 q];exact hp
 obtain⟨s1,s2,_,s4⟩:=lA hy a1;have ha:Apart ((g p.1).lots++[p]):=apart_snoc_iff.2 ⟨wL (h.ok p.1).sl,fun y hq=>Classical.byContradiction fun r=>hn ⟨y,hq,r⟩⟩;have a0:=h.len;refine⟨fun f=>?_,fun f=>?_,fun f=>?_,fun f t ht hf=>?_⟩
 ·by_cases e:f=p.1
  ·rw[e,h1];exact s1
  ·rw[h2 f e];exact h.ok f
 ·by_cases e:f=p.1
  ·rw[e,h1];exact hc
  ·rw[h2 f e];exact h.cap f
 ·rw[ay,aJ];by_cases e:f=p.1
  ·rw[e,h1];have:=a0 p.1
   rw[ay,aJ] at s2;omega
  ·rw[h2 f e];have:=a0 f
   omega
 ·rw[sj];by_cases e:f=p.1
  ·rw[e,h1,s4 ha t ht,gF,iX,if_pos rfl,gF,iX,h.ov p.1 t ht (hf.trans e)]
  ·rw[h2 f e,if_neg (fun q=>e q.symm)];exact h.ov f t ht hf
def GH:SetS (fun _=>⟨none,0,[]⟩) []:=⟨fun _=>⟨(fun y h=>by cases h),.nil⟩,fun _=>aB _,fun _=>aB _,fun _ _ _ _=>rfl⟩
attribute [local irreducible] G GO GP GPW GPK GF GE Ev Ef EfR Ent CB GB V.Enters
def sR{L R1 R2:LH}{mz mx:Nat}{z x:List (Int×Stk)}[a1:PickG L mz Int Stk kvI Stk.v z R1][a0:PickG L mx Int Stk kvI Stk.v x R2](f:Int) :
  Tri ai 287 #[.map (some mz),.map (some mx),ac f] L (fun v L'=>v=(uOf z x f).v∧L' = L):=by
 refine Tri.bd ?_;refine Jq ?_;intros;refine GO.ev (Ev.l8 rfl rfl) ag ?_;cases h:@List.lookup _ _ instBEqOfDecidableEq f z with
 | some k =>
  simp only[fq,gk,Option.isSome_some];refine Jq ?_;intros;refine KX.d7 al ae ⟨?_,rfl⟩;unfold uOf glk;rw[h];rfl
 | none =>
  simp only[eK,dY,Option.isSome_none];refine Jq ?_;intros;refine GO.ev (Ev.e8 rfl rfl) ag ?_;rw[nZ];refine Jq ?_;intros;refine KX.d7 al ae ⟨?_,rfl⟩;unfold uOf glk;rw[h];rfl
end
section
open Go.V
attribute [local irreducible] G GO GP GPW GPK GF GE Ev Ef EfR Ent CB GB V.Enters
abbrev Dk:=ay7 [.ef 13,.ev 14]
def cL{φ ψ:Prop}(k:ψ)(h:Hid ψ→φ:=by intro k;(with_reducible apply G.d7);first|refine G.dr 71 7 Dk (Hid.out k)):φ:=h ⟨k⟩
def XW{φ ψ:Prop}(k:ψ)(h:Hid ψ→φ:=by intro k;(repeat (first|refine aa ?_|intro zzz|refine G.dr 71 7 Dk ?_));(repeat revert zzz);exact Hid.out k):φ:=h ⟨k⟩
def Eq{L:LH}(b bc:Nat)(sh:Int)(x:LedX)(s:StV)(z:ChG)(l:LL)(hm:SetS (uOf z.imp x.imp) l)(hl:l.length≤2000)(d1:∀y∈l,LotOk y)(m:MvV)[hr:Rds L m.pad Lot aj 3 m.m.parts](hp:∀p∈m.m.parts,LotOk p)(hb:∀p∈m.m.parts,p.1≤9223372036854775807)(d3:m.m.parts.length≤2000) :
  Tri ai 265 #[ax bc,aN (aM m)] (chgL b bc s z (ledL b sh x L)) (fun v L'=>∃u,v=ac (impG sh m.m.parts l)∧(impG sh m.m.parts l=0→SetS (uOf u x.imp) (l++m.m.parts))∧L' = chgL b bc s { z with imp:=u } (ledL b sh x L)):=by
 obtain⟨⟨frm,to,item,mn,parts⟩,pad,pcap⟩:=m;dsimp only at hr hp hb d3 ⊢;refine Tri.bd (args:=[ax bc,aN (aM ⟨⟨frm,to,item,mn,parts⟩,pad,pcap⟩)]) ?_;simp only[aM,chgL,cn,ledL,bJ];refine XW ?_;intros;rename_i b3;refine G.loop (α:=Nat×List (Int×Stk)) (fun g=>g.1≤parts.length∧SetS (uOf g.2 x.imp) (l++parts.take g.1)∧impG sh parts l=impG sh (parts.drop g.1) (l++parts.take g.1)) (fun g=>[(0,ax bc),(12,ah pad parts.length pcap),(13,ac parts.length),(14,ac (g.1:Int))]) (fun g=>chgL b bc s { z with imp:=g.2 } (ledL b sh x (L))) (fun g=>parts.length - g.1) (0,z.imp) ⟨aw _,by rw[bH,aQ];exact hm,by rw[bH,aQ];rfl⟩ av (by(try simp only[chgL,cn,ledL,bJ]);exact ae) ?_;rintro⟨i,mp⟩ ⟨hi,a3,hg⟩;dsimp only at hi a3 hg ⊢;by_cases b0:i<parts.length
 case neg =>
  rw[bC ab,aF ab] at hg;rw[aF ab] at a3;have d4:impG sh parts l=0:=hg;rw[d4];(try simp only[chgL,cn,ledL,bJ]);refine XW ?_;intros;refine KX.d7 al ?_ ⟨mp,rfl,fun _=>a3,rfl⟩;(try simp only[chgL,cn,ledL,bJ]);exact ae
 have d5:(i:Int).toNat=i:=aC i;have d0 : (i:Int).toNat<parts.length:=ab;have e1:parts[(i:Int).toNat]! = parts[i]!:=by rw[d5]
 have b2:l++parts.take (i+1)=l++parts.take i++[parts[(i:Int).toNat]!]:=by rw[e1,aD b0,getElem!_of b0,aH]
 have c8:(l++parts.take i).length≤4000:=by rw[ay,bG];omega
 have b1:∀y∈l++parts.take i,LotOk y:=fun y hy=>by
  rcases List.mem_append.1 hy with q|q
  ·exact d1 y q
  ·exact hp y (dv q)
 have c7:=hb _ (aI b0);have a4:=hp _ (aI b0);rw[←e1] at c7 a4;rw[eZ b0,qq,←e1] at hg;rw[←b2] at hg;have b7:impG sh parts l≠0→(impG sh parts l=0→SetS (uOf mp x.imp) (l++parts)):=fun h q=>absurd q h;obtain⟨p,c5⟩:∃p,parts[(i:Int).toNat]! = p:=⟨_,rfl⟩;rw[c5] at c7 a4 hg b2;clear e1;have c4:=a4;unfold LotOk at c4;have a5:=wO a3 b1 a4;(try simp only[chgL,cn,ledL,bJ]);refine XW ?_;intros;rw[c5];simp only[aj];refine XW ?_;intros;by_cases c1:p.1 / 4294967296=sh
 ·rw[if_pos (.inl c1)] at hg;rw[hg] at b7 ⊢;refine XW ?_;intros;exact KX.d7 al (by(try simp only[chgL,cn,ledL,bJ]);exact ae) ⟨mp,rfl,fun h=>absurd h ag,rfl⟩
 by_cases c2:11<p.1 / 4294967296
 ·rw[if_pos (.inr c2)] at hg;rw[hg] at b7 ⊢;refine XW ?_;intros;exact KX.d7 al (by(try simp only[chgL,cn,ledL,bJ]);exact ae) ⟨mp,rfl,fun h=>absurd h ag,rfl⟩
 rw[if_neg (fun q=>q.elim c1 c2)] at hg;refine XW ?_;intros;refine GPW.cr (sR (z:=mp) (x:=x.imp) p.1) ?_;have b4:=a3.ok p.1;have a8:=a3.cap p.1;have d2:=a3.len p.1;have a7:=fun (h:¬ ∃y∈(uOf mp x.imp p.1).lots,¬apart y p) (ys:LL) (hy:ez hdC ((uOf mp x.imp p.1).lots++[p]) ys) (s' : Stk) (h1:s'.lots=zset ys) (h2:(zset ys).length≤s'.cap)=>wP (g':=uOf (gins mp p.1 s') x.imp) a3 b1 a4 h hy (by rw[kN,if_pos rfl,h1]) (by rw[kN,if_pos rfl];exact h2) (fun f e=>by rw[kN,if_neg e]);have a9:=fun M:LH=>qO (z:=mp) (x:=x.imp) p.1 (L:=M);generalize uOf mp x.imp p.1=sk at *;obtain⟨sad,scap,a0⟩:=sk;dsimp only at b4 a8 d2 a7 a5
 have c6:∀y∈a0++[p],LotOk y:=fun y hy=>by
  rcases List.mem_append.1 hy with q|q
  ·exact b4.ok y q
  ·rw[List.mem_singleton.1 q];exact a4
 simp only[Stk.v];refine XW ?_;intros;rename_i b6 bl;refine GO.ent (L':=[isl aj 3 (some ⟨bl,0,none⟩) [p],isl aj 3 sad a0]++(isl aj 3 sad a0::chgL b bc s { z with imp:=mp } (ledL b sh x (obj b6 tLot (aj p)::L)))) ?_ ?_
 ·refine(Ent.at (A:=obj bl tLot [ac p.1,ac p.2.1,ac p.2.2]) (Ent.f7 (enc:=aj) (sz:=3) (xs:=[p]) (n:=1) rfl rfl (fun _ _=>rfl) ag)).trans (Ent.freezeSl.trans ?_);refine(Ent.at (A:=allP (fun p:Int×Stk=>stkP p.2) mp) (Ent.refl _)).trans ?_;refine(Ent.d7 (Ent.at (A:=allP (fun p:Int×Stk=>stkP p.2) x.imp) (Ent.refl _))).trans ?_;refine(a9 _).trans ?_;refine Ent.trans (show Ent (stkP ⟨sad,scap,a0⟩::_) (isl aj 3 sad a0::_) from Ent.refl _) ?_;refine(Ent.dup (bN _ _ _ _).pers).trans ?_;simp only[chgL,cn,ledL,bJ,aj,ao,an];exact ae
 simp only[ao,an];(first|refine GO.ef (Ef.call (qD (some ⟨bl,0,none⟩) 1 [p] sad scap a0 (by rw[aJ];decide) ab (fun y hy=>by rw[List.mem_singleton.1 hy];exact a4) b4) rfl cJ) ag ?_);rintro _ _⟨_,⟨d6,e0,ad2,e2,rfl,rfl⟩,hL⟩;simp only[ao,an] at hL;subst hL;have b5:=By b4 a4;generalize hpi:(pcI [p] a0).length=pn at b5;refine XW ?_;intros;by_cases c3:∃y∈a0,¬apart y p
 ·have c9:=b5.2 c3;rw[if_pos (a5.1 c3)] at hg;rw[hg] at b7 ⊢;(try simp only[chgL,cn,ledL,bJ]);refine XW ?_;intros;exact KX.d7 al (by(try simp only[chgL,cn,ledL,bJ]);exact ae) ⟨mp,rfl,fun h=>absurd h ag,rfl⟩
 have c9:¬0<pn:=fun q=>c3 (b5.1 q);rw[if_neg (fun q=>c3 (a5.2 q))] at hg;repeat first|((fail_if_success (with_reducible refine G.atS 11 ?_));(with_reducible apply G.seq))|refine bW ?_|intro _|refine cL ?_
 refine G.ent (L':=asl aj 3 tLot sad a0.length a0::obj b6 tLot [ac p.1,ac p.2.1,ac p.2.2]::chgL b bc s { z with imp:=mp } (ledL b sh x (L))) ?_ ?_
 ·refine(Ent.at (A:=isl aj 3 sad a0) (Ent.m7 (E:=tLot) (by simp only[maxLen];omega))).trans ?_;(try simp only[chgL,cn,ledL,bJ,aj]);exact ae
 ·skip;simp only[chgL,cn,ledL,bJ];refine G.e9 mixed krStd0 ?_;refine GF.evP (i:=0) rfl krStd0 (Ev.move rfl) ag ?_;refine GF.evP (i:=1) rfl krStd0 (Ev.nilCheck rfl) ag ?_;refine GF.evP (i:=2) rfl krStd0 (by first|exact Ev.fieldAddr rfl|exact Ev.e9 rfl) ag ?_;refine GF.evL (i:=3) rfl krStd0 (by first|exact Ev.d8 rfl rfl|exact Ev.d7 rfl aK|exact Ev.d9 rfl rfl|exact Ev.e7 rfl ab|exact Ev.f7 rfl ab ag rfl) ag ?_;refine GF.evP (i:=4) rfl krStd0 (by first|exact Ev.fieldAddr rfl|exact Ev.e9 rfl) ag ?_;refine GF.evL (i:=5) rfl krStd0 (by first|exact Ev.d8 rfl rfl|exact Ev.d7 rfl aK|exact Ev.d9 rfl rfl|exact Ev.e7 rfl ab|exact Ev.f7 rfl ab ag rfl) ag ?_;refine GF.evP (i:=6) rfl krStd0 (Ev.move rfl) ag ?_;refine GF.evL (i:=8) rfl krStd0 (by first|exact Ev.d8 rfl rfl|exact Ev.d7 rfl aK|exact Ev.d9 rfl rfl|exact Ev.e7 rfl ab|exact Ev.f7 rfl ab ag rfl) ag ?_;refine GF.d7 7 9 krStd0 ?_ ?_
  ·refine GE.ef rfl (Ef.f8 (jE sad a0.length scap a8) rfl) ag ?_;rintro _ _⟨rfl,rfl⟩;refine⟨(by intro pe hp;simp only[bj,aU,or_false] at hp;rcases hp with rfl|rfl|rfl<;>first|exact Ev.d8 rfl rfl|exact Ev.d7 rfl aK|exact Ev.d9 rfl rfl),?_⟩;refine GF.plan [.ef 9,.ef 10,.ef 11,.ef 12] krStd0 rfl ?_;refine XW ?_;intros;refine GPW.ef (Ef.j0 (enc:=aj) (e:=p) rfl rfl rfl rfl rfl aK (co _) ab ab) ag ?_;rintro _ _⟨b8,a6,rfl,rfl⟩;refine XW ?_;intros;refine GPW.ca (ka b8 (a0++[p]).length a6 (a0++[p]) rfl (by rw[ay,aJ];omega) c6) ?_;rintro _ _⟨a2,a1,ys,rfl,b9,rfl⟩;refine XW ?_;intros;refine GPW.fct (iq (ad:=a2) (cap:=a1) (xs:=zset ys) (enc:=aj) (sz:=3) (E:=tLot)) ?_;rintro⟨c0,_⟩;refine GPW.efu (Ef.e7 (enc:=Stk.v) (e:=(⟨a2,a1,zset ys⟩:Stk)) rfl rfl rfl rfl) ?_;rintro _ _⟨rfl,rfl⟩;refine XW ?_;intros;refine⟨(i+1,gins mp p.1 ⟨a2,a1,zset ys⟩),⟨by dsimp only;omega,by dsimp only;rw[b2];exact a7 c3 ys b9 ⟨a2,a1,zset ys⟩ rfl c0,hg⟩,by dsimp only;omega,by dsimp only;rw[aV i];exact av,?_⟩;refine(Ent.frz a2).trans ?_;refine(Ent.at (A:=allP (fun p:Int×Stk=>stkP p.2) mp) (Ent.refl _)).trans ?_;refine(Ent.at (A:=isl aj 3 a2 (zset ys)) (lI (s:=⟨a2,a1,zset ys⟩) (k:=p.1))).trans ?_;simp only[chgL,cn,ledL,bJ];exact ae
  ·refine GE.ef rfl (Ef.lit rfl rfl ag rfl) ag ?_;rintro _ _⟨bm,rfl,rfl⟩;refine⟨(by intro pe hp;simp only[bj,aU,or_false] at hp;rcases hp with rfl|rfl|rfl<;>first|exact Ev.d8 rfl rfl|exact Ev.d7 rfl aK|exact Ev.d9 rfl rfl),?_⟩;refine GF.plan [.ef 7,.ef 10,.ef 11,.ef 12] krStd0 rfl ?_;refine XW ?_;intros;refine GPW.cr (jE sad a0.length scap a8) ?_;refine XW ?_;intros;refine GPW.ef (Ef.j0 (enc:=aj) (e:=p) rfl rfl rfl rfl rfl aK (co _) ab ab) ag ?_;rintro _ _⟨b8,a6,rfl,rfl⟩;refine XW ?_;intros;refine GPW.ca (ka b8 (a0++[p]).length a6 (a0++[p]) rfl (by rw[ay,aJ];omega) c6) ?_;rintro _ _⟨a2,a1,ys,rfl,b9,rfl⟩;refine XW ?_;intros;refine GPW.fct (iq (ad:=a2) (cap:=a1) (xs:=zset ys) (enc:=aj) (sz:=3) (E:=tLot)) ?_;rintro⟨c0,_⟩;refine GPW.efu (Ef.e7 (enc:=Stk.v) (e:=(⟨a2,a1,zset ys⟩:Stk)) rfl rfl rfl rfl) ?_;rintro _ _⟨rfl,rfl⟩;refine XW ?_;intros;refine⟨(i+1,gins mp p.1 ⟨a2,a1,zset ys⟩),⟨by dsimp only;omega,by dsimp only;rw[b2];exact a7 c3 ys b9 ⟨a2,a1,zset ys⟩ rfl c0,hg⟩,by dsimp only;omega,by dsimp only;rw[aV i];exact av,?_⟩;refine(Ent.frz a2).trans ?_;refine(Ent.at (A:=allP (fun p:Int×Stk=>stkP p.2) mp) (Ent.refl _)).trans ?_;refine(Ent.at (A:=isl aj 3 a2 (zset ys)) (lI (s:=⟨a2,a1,zset ys⟩) (k:=p.1))).trans ?_;simp only[chgL,cn,ledL,bJ];exact ae
