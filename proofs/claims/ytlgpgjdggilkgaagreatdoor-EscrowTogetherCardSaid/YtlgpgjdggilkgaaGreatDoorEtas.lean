/- Lemmas. -/
import Derived.Test.YtlgpgjdggilkgaaGreatDoorEtar
set_option linter.all false
set_option maxHeartbeats 8000000
namespace Go.Proofs.YtlgpgjdggilkgaaGreatDoor
section
open Go.V
theorem yi{x:h2}{set:ο}(h:S4 set){p q:Nat}(a2:p<=q)(hq:q<set.length)(hp:NU x set[p]!):NU x set[q]!:=by
 rcases Nat.lt_or_ge p q with B|M
 .have K:=(List.pairwise_iff_getElem.1 h.sl) p q D hq B;have T:=h.ok _ (bA hq);grind [NU,sl,a0]
 grind
def JN(q:h2×Bool):τ:=[bF (aL q.1),.bool q.2]
attribute [local irreducible] Α GO GP δ ms Ev Ef C0 F CB GB V.Enters
abbrev DV:=Ze [.ev 17,.ev 18,.ev 19,.ev 20,.ev 21,.ev 22,.ev 23,.ev 24,.ev 25,.ev 26,.ev 27,.ev 28,.ev 29,.ev 30,.ev 31,.ev 32,.ev 33,.ev 34]
def PX{φ ψ:Prop}(k:ψ)(h:Hid ψ->φ:=by intro k;(repeat (first|refine ab ?_|intro B6|refine Α.dr 39 1 DV ?_));(repeat revert B6);exact Hid.out k):φ:=h ⟨k⟩
theorem EA{L:Η}(bs bx:Nat)(K0:OA)(sc:Nat)(set:ο)[hr:F2 L K0 h2 aL 3 set](x:h2)(O:J9 x)(hw:∀y∈set,a0 y)(a2:set.length<=1000000)(k:Nat)(hk:k<set.length) :
  Τ Θ 172 #[J (k:Int),av bs,av bx] (obj bs gu [ah K0 set.length sc]::obj bx I7 (aL x)::L) (F3 (.bool (dB (NU x set[k]!))) (obj bs gu [ah K0 set.length sc]::obj bx I7 (aL x)::L)):=by
 have M:(k:Int).toNat=k:=D;have B:=hw _ (bA hk);unfold a0 at B;unfold J9 at O;rw[show set[k]! = set[(k:Int).toNat]! by rw[M]] at B ⊢;simp only[aL];refine Τ.bd ?_;by_cases c1:x.1<set[(k:Int).toNat]!.1
 .rw[bN (show NU x set[(k:Int).toNat]! from .inl c1)];refine PX ?_;intros;exact KX.en ⟨rfl,rfl⟩
 by_cases c2:set[(k:Int).toNat]!.1=x.1
 .by_cases c3:x.2.1<set[(k:Int).toNat]!.2.1+set[(k:Int).toNat]!.2.2
  .rw[bN (show NU x set[(k:Int).toNat]! from .inr ⟨c2,c3⟩)];refine PX ?_;intros;exact KX.a8 aF ak ⟨by rw[bN c3];rfl,rfl⟩
  .rw[bB (by grind [NU])];refine PX ?_;intros;exact KX.a8 aF ak ⟨by rw[bB c3];rfl,rfl⟩
 .rw[bB (by grind [NU])];refine PX ?_;intros;exact KX.en ⟨rfl,rfl⟩
theorem AH{L:Η}(bs bx:Nat)(K0:OA)(sc:Nat)(set:ο)[hr:F2 L K0 h2 aL 3 set](x:h2)(O:J9 x)(hs:S4 set)(a2:set.length<=1000000) :
  Τ Θ 151 #[J (set.length:Int),.func (.func 172) #[] #[av bs,av bx]] (obj bs gu [ah K0 set.length sc]::obj bx I7 (aL x)::L) (λv Γ=>∃i:Nat,v=J (i:Int)/\(i<=set.length/\(∀p,p<i->¬NU x set[p]!)/\(i<set.length->NU x set[i]!))/\Γ = obj bs gu [ah K0 set.length sc]::obj bx I7 (aL x)::L):=by
 refine Τ.bd ?_;refine Nd ?_;intros;refine Α.loop (α:=Nat×Nat) (λg=>(g.1<=g.2/\g.2<=set.length)/\(∀p,p<g.1->¬NU x set[p]!)/\∀p,g.2<=p->p<set.length->NU x set[p]!) (λg=>[(1,.func (.func 172) #[] #[av bs,av bx]),(5,J (g.1:Int)),(6,J (g.2:Int))]) (λ_=>obj bs gu [ah K0 set.length sc]::obj bx I7 (aL x)::L) (λg=>g.2 - g.1) (0,set.length) aj aD (F.refl _) ?_;rintro⟨i,j⟩ ⟨⟨K,T⟩,h3,h4⟩;dsimp only at K T h3 h4 ⊢;by_cases a3:i<j
 case neg =>
  have B:i=j:=D;subst B;refine Nd ?_;intros;exact KX.a8 aF (F.refl _) ⟨i,rfl,⟨T,h3,λq=>aj⟩,rfl⟩
 refine Nd ?_;intros;refine GO.ev (Ev.shr rfl rfl ae) ae ?_
 have e2:((i:Int)+(j:Int)).fdiv (2 ^ min ((1:Int).toNat) IntKind.u64.bits)=(((i+j) / 2:Nat):Int):=by
  rw[dM _ ae];simp[IntKind.bits]
 rw[e2];obtain⟨h,hh⟩:∃h,(i+j) / 2=h:=⟨_,rfl⟩;rw[hh];refine Nd ?_;intros;refine GO.ef (Ef.f5 rfl rfl (EA bs bx K0 sc set x O hs.ok a2 h D)) ae ?_;rintro _ _⟨rfl,rfl⟩;by_cases hc:NU x set[h]!
 .rw[bN hc];refine Nd ?_;intros;exact⟨(i,h),⟨⟨D,D⟩,h3,λp hp M=>yi hs hp M hc⟩,D,aD,F.refl _⟩
 .rw[bB hc];refine Nd ?_;intros;refine⟨(h+1,j),⟨⟨D,D⟩,λp hp q=>?_,h4⟩,D,?_,F.refl _⟩
  .grind [yi]
  .rw[show(((h+1,j):Nat×Nat).1:Int)=(h:Int)+1 by simp];exact aD
end
section
open Go.V
attribute [local irreducible] Α GO GP δ ms Ev Ef C0 F CB GB V.Enters
abbrev DU:=Ze [.ev 17,.ev 18,.ev 19,.ev 20,.ev 21,.ev 22,.ev 23,.ev 24,.ev 25,.ev 26,.ev 27,.ev 28,.ev 29,.ev 30,.ev 31]
abbrev DT:=Zc []
abbrev DS:=Ze [.ev 17]
def bK{φ ψ:Prop}(k:ψ)(h:Hid ψ->φ:=by intro k;(with_reducible apply Α.a8);first|refine Α.dr 131 4 DU (Hid.out k)|refine Α.dr 131 6 DT (Hid.out k)|refine Α.dr 131 9 DS (Hid.out k)):φ:=h ⟨k⟩
def Qb{φ ψ:Prop}(k:ψ)(h:Hid ψ->φ:=by intro k;(repeat (first|refine ab ?_|intro B6|refine bK ?_));(repeat revert B6);exact Hid.out k):φ:=h ⟨k⟩
def yH(bl bs:Nat)(ad:OA)(c:Nat)(l:ο)(K0:OA)(sc:Nat)(set:ο)(e9:l.length<=1000000)(e7:set.length<=1000000)(hw:∀x∈l,a0 x)(hs:S4 set) :
  Ft Θ 171 [av bl,av bs] ((l.flatMap (OC set)).map JN) [obj bl gu [ah ad l.length c],obj bs gu [ah K0 set.length sc],ξ aL 3 ad l,ξ aL 3 K0 set] []:=by
 intro i J7 Jx Y;rw[al]
 have a7 : ∀H8 q R,l.flatMap (OC set)=H8++q::R->SS Θ i (JN q) [J7 H8.length] (λv Γ=>(v=.bool true/\Γ = [J7 (H8.length+1)])\/(v=.bool false/\Γ = [Jx H8.length])):=by
  intro H8 q R e;have hk:H8.length<(l.flatMap (OC set)).length:=by rw[e,ay,aK];omega
  have h:=Y H8.length (by rw[al];exact hk);rw[eW] at h;have e2:(l.flatMap (OC set))[H8.length]=q:=(List.getElem_of_eq e hk).trans cj;rw[e2] at h;exact h
 clear Y;have hV:∀k,k<=l.length->l.flatMap (OC set)=(l.take k).flatMap (OC set)++(l.drop k).flatMap (OC set):=λk _=>by rw[<-dL,cK]
 obtain⟨V,c6⟩:∃V,l.flatMap (OC set)=V:=⟨_,rfl⟩;rw[c6] at a7 hV ⊢;refine Τ.bd (args:=[.func (.yield i) #[] #[],av bl,av bs]) ?_;refine Qb ?_;intros;refine Α.loop (α:=Nat) (λk=>k<=l.length) (λk=>[(0,.func (.yield i) #[] #[]),(1,av bl),(2,av bs),(9,ah ad l.length c),(10,J l.length),(11,J (k:Int))]) (λk=>[J7 ((l.take k).flatMap (OC set)).length,obj bl gu [ah ad l.length c],obj bs gu [ah K0 set.length sc],ξ aL 3 ad l,ξ aL 3 K0 set]) (λk=>l.length - k) 0 (aC _) aD (F.refl _) ?_;intro k hk;by_cases d3:k<l.length
 case neg =>
  have e5:k=l.length:=D;have e:(l.take k).flatMap (OC set)=V:=by rw[e5,cz,c6]
  rw[e];refine Qb ?_;intros;exact KX.c8 aF (F.c7 (F.nil _)) (.inl rfl)
 have e4:(k:Int).toNat=k:=bD k;have b4 : (k:Int).toNat<l.length:=D;obtain⟨x0,a6⟩:∃x0,l[(k:Int).toNat]! = x0:=⟨_,rfl⟩;have b8:a0 x0:=by rw[<-a6];exact hw _ (bA b4)
 have a4:l[k]! = x0:=by rw[<-a6,e4]
 have hd:l.drop k=x0::l.drop (k+1):=by rw[ke d3,a4]
 have a9:V=(l.take k).flatMap (OC set)++(OC set x0++(l.drop (k+1)).flatMap (OC set)):=by
  have:=hV k hk
  rw[hd,aT] at this;exact this
 have c0:=hV (k+1) d3;obtain⟨R,hR⟩:∃R,(l.drop (k+1)).flatMap (OC set)=R:=⟨_,rfl⟩;rw[hR] at a9 c0
 have a3:∀H8,V=H8++R->H8.length=((l.take (k+1)).flatMap (OC set)).length:=λH8 e=>by
  have:=List.append_cancel_right (c0.symm.trans e)
  rw[this]
 refine Qb ?_;intros;rw[a6];refine Qb ?_;intros;rename_i bx;refine GO.cL (Γ:=obj bs gu [ah K0 set.length sc]::obj bx I7 (aL x0)::[J7 ((l.take k).flatMap (OC set)).length,obj bl gu [ah ad l.length c],ξ aL 3 ad l,ξ aL 3 K0 set]) (by simp only[aL];exact ak) ?_;refine GO.ca (AH bs bx K0 sc set x0 b8.w hs e7) ?_;rintro _ _⟨i0,rfl,⟨b3,d0,d1⟩,rfl⟩;have b7:set.drop i0=Rh x0 set:=xT x0 b3 d0 d1;have b2:=pq x0 hs.sl hs.ok;rw[<-b7] at b2;have b0:V=(l.take k).flatMap (OC set)++(Q6 (set.drop i0) x0++R):=by rw[b7];exact a9
 generalize (l.take k).flatMap (OC set)=D0 at b0;clear b7 d0 d1 a9;refine Qb ?_;intros;refine Α.loop (α:=h2×Nat×List (h2×Bool)) (λg=>J9 g.1/\g.2.1<=set.length/\(∀y∈set.drop g.2.1,NU g.1 y)/\V=g.2.2++(Q6 (set.drop g.2.1) g.1++R)) (λg=>[(0,.func (.yield i) #[] #[]),(1,av bl),(2,av bs),(5,av bx),(6,J (g.2.1:Int)),(9,ah ad l.length c),(10,J l.length),(11,J (k:Int))]) (λg=>[J7 g.2.2.length,obj bl gu [ah ad l.length c],obj bs gu [ah K0 set.length sc],obj bx I7 (aL g.1),ξ aL 3 ad l,ξ aL 3 K0 set]) (λg=>set.length - g.2.1) (x0,i0,D0) ⟨b8.w,b3,b2,b0⟩ aD (by simp only[aL];exact ak) ?_;clear b0 b2 b3 b8 a6 a4 hd;rintro⟨x,j,H8⟩ ⟨d6,hj,hh,B⟩;dsimp only at d6 hj hh B ⊢;have b9:=d6;unfold J9 at b9;have e3:(j:Int).toNat=j:=bD j;have d2:set[j]! = set[(j:Int).toNat]!:=by rw[e3]
 have e0:j<set.length->a0 set[(j:Int).toNat]!:=λh=>by rw[<-d2];exact hs.ok _ (bA h)
 have b1:j<set.length->set.drop j=set[(j:Int).toNat]!::set.drop (j+1):=λh=>by rw[ke h,d2]
 simp only[aL];repeat first|refine Α.sn 4 ?_|refine dA ?_|intro _|refine bK ?_
 refine Α.c7 (α:=Unit) (λ_=>True) (λ_=>[(0,.func (.yield i) #[] #[]),(1,av bl),(2,av bs),(5,av bx),(6,J (j:Int)),(9,ah ad l.length c),(10,J l.length),(11,J (k:Int)),(50,.bool (dB (0<x.2.2/\j<set.length/\set[(j:Int).toNat]!.1=x.1/\set[(j:Int).toNat]!.2.1<x.2.1+x.2.2)))]) (λ_=>[J7 H8.length,obj bl gu [ah ad l.length c],obj bs gu [ah K0 set.length sc],obj bx I7 [J x.1,J x.2.1,J x.2.2],ξ aL 3 ad l,ξ aL 3 K0 set]) ?_ ?_
 .by_cases c1:0<x.2.2
  case neg =>
   rw[bB (λq=>c1 q.1)];refine Qb ?_;intros;exact⟨(),trivial,aD,F.refl _⟩
  by_cases c2:j<set.length
  case neg =>
   rw[bB (λq=>c2 q.2.1)];refine Qb ?_;intros;exact⟨(),trivial,aD,F.refl _⟩
  have M:=e0 c2;unfold a0 at M;by_cases c3:set[(j:Int).toNat]!.1=x.1
  case neg =>
   rw[bB (λq=>c3 q.2.2.1)];refine Qb ?_;intros;exact⟨(),trivial,aD,F.refl _⟩
  rw[show dB (0<x.2.2/\j<set.length/\set[(j:Int).toNat]!.1=x.1/\set[(j:Int).toNat]!.2.1<x.2.1+x.2.2)=dB (set[(j:Int).toNat]!.2.1<x.2.1+x.2.2) from by rw[dH,dH];exact decide_eq_decide.2 ⟨λq=>q.2.2.2,λq=>⟨c1,c2,c3,q⟩⟩];refine Qb ?_;intros;exact⟨(),trivial,aD,F.refl _⟩
 rintro _ _;by_cases C:0<x.2.2/\j<set.length/\set[(j:Int).toNat]!.1=x.1/\set[(j:Int).toNat]!.2.1<x.2.1+x.2.2
 case neg =>
  rw[bB C];by_cases c1:0<x.2.2
  .have e6:Q6 (set.drop j) x=[(x,false)]:=by
    by_cases c2:j<set.length
    .rw[b1 c2];exact sQ c1 (λq=>C ⟨c1,c2,q.1,q.2⟩)
    .rw[bU D];exact Χ c1
   rw[e6] at B;have a5:=a7 H8 (x,false) R B;have he:=a3 (H8++[(x,false)]) (by rw[B];simp);rw[ay,aX] at he;refine Qb ?_;intros;refine GO.cL (F.at (Ο:=J7 H8.length) (F.refl _)) ?_;((with_reducible apply GO.a8);refine GO.T8 (C0.yield (a5) rfl rfl fQ) ae ?_);rintro _ _⟨_,(⟨rfl,rfl⟩|⟨rfl,rfl⟩),hL⟩
   .simp only[au,ax] at hL;subst hL;refine Qb ?_;intros;refine⟨k+1,D,D,?_,?_⟩
    .rw[show(((k+1:Nat)):Int)=(k:Int)+1 by omega];exact aD
    .rw[<-he];exact ak
   .simp only[au,ax] at hL;subst hL;refine Qb ?_;intros;exact KX.a8 aF (F.c7 (F.nil _)) (.inr ⟨H8.length,rfl⟩)
  .have he:=a3 H8 (by rw[B,yI c1];rfl);refine Qb ?_;intros;refine⟨k+1,D,D,?_,?_⟩
   .rw[show(((k+1:Nat)):Int)=(k:Int)+1 by omega];exact aD
   .rw[<-he];exact ak
 rw[bN C];obtain⟨c1,c2,c3,c4⟩:=C;have M:=e0 c2;have d4:=hh set[(j:Int).toNat]! (by rw[b1 c2];exact aA);have b6:(set.drop j).Pairwise sl:=(hs.sl.sublist (List.drop_sublist j set));rw[b1 c2] at b6 B hh;rw[List.pairwise_cons] at b6
 have e1:∀w∈set.drop (j+1),NU (Sp x set[(j:Int).toNat]!) w:=λw hw=>by
  have K:=b6.1 w hw;have T:=hs.ok w (eM hw);unfold sl at K;unfold a0 at T M;unfold NU Sp Q5 Pd;dsimp only;omega
 rw[Cv ⟨c1,c3,c4⟩] at B
 have e8:J9 (Sp x set[(j:Int).toNat]!):=by
  unfold a0 at M;unfold NU at d4;unfold J9 Sp Q5 Pd;dsimp only;omega
 have ho:0<=Pd x set[(j:Int).toNat]!/\Pd x set[(j:Int).toNat]! < x.2.2/\0<Q5 x set[(j:Int).toNat]!/\Q5 x set[(j:Int).toNat]!<=x.2.2 - Pd x set[(j:Int).toNat]!:=by
  unfold a0 at M;unfold NU at d4;unfold Q5 Pd;omega
 have eo:max 0 (set[(j:Int).toNat]!.2.1 - x.2.1)=Pd x set[(j:Int).toNat]!:=rfl;have ei:min (x.2.2 - Pd x set[(j:Int).toNat]!) (set[(j:Int).toNat]!.2.1+set[(j:Int).toNat]!.2.2 - (x.2.1+Pd x set[(j:Int).toNat]!))=Q5 x set[(j:Int).toNat]!:=rfl;have e2:Sp x set[(j:Int).toNat]! = (x.1,x.2.1+Pd x set[(j:Int).toNat]! + Q5 x set[(j:Int).toNat]!,x.2.2 - Pd x set[(j:Int).toNat]! - Q5 x set[(j:Int).toNat]!):=rfl;unfold a0 at M;repeat first|refine Α.sn 6 ?_|refine dA ?_|intro _|refine bK ?_
 refine Α.c7 (α:=Unit) (λ_=>True) (λ_=>[(0,.func (.yield i) #[] #[]),(1,av bl),(2,av bs),(5,av bx),(6,J (j:Int)),(7,J (Pd x set[(j:Int).toNat]!)),(9,ah ad l.length c),(10,J l.length),(11,J (k:Int))]) (λ_=>[J7 H8.length,obj bl gu [ah ad l.length c],obj bs gu [ah K0 set.length sc],obj bx I7 [J x.1,J x.2.1,J x.2.2],ξ aL 3 ad l,ξ aL 3 K0 set]) ?_ ?_
 .rw[<-eo];refine Qb ?_;intros;exact⟨(),trivial,aD,F.refl _⟩
 rintro _ _;obtain⟨o,b5⟩:∃o,Pd x set[(j:Int).toNat]! = o:=⟨_,rfl⟩;obtain⟨q,d5⟩:∃q,Q5 x set[(j:Int).toNat]! = q:=⟨_,rfl⟩;rw[b5,d5] at ho e2 ei;rw[b5,d5] at B;rw[b5];clear eo;obtain⟨f0,f1,f2,f3⟩:=ho;obtain⟨D1,a2⟩:∃D1,D1=H8++(if 0<o then[(((x.1,x.2.1,o):h2),false)] else[]):=⟨_,rfl⟩;repeat first|refine Α.sm 7 ?_|refine dA ?_|intro _|refine bK ?_
 refine Α.c7 (α:=Unit) (λ_=>True) (λ_=>[(0,.func (.yield i) #[] #[]),(1,av bl),(2,av bs),(5,av bx),(6,J (j:Int)),(7,J o),(9,ah ad l.length c),(10,J l.length),(11,J (k:Int))]) (λ_=>[J7 D1.length,obj bl gu [ah ad l.length c],obj bs gu [ah K0 set.length sc],obj bx I7 [J x.1,J x.2.1,J x.2.2],ξ aL 3 ad l,ξ aL 3 K0 set]) ?_ ?_
 .by_cases h0:0<o
  .rw[Χ h0] at a2 B;have a5:=a7 H8 ((x.1,x.2.1,o),false) _ B;refine Qb ?_;intros;refine GO.cL (F.at (Ο:=J7 H8.length) (F.refl _)) ?_;((with_reducible apply GO.a8);refine GO.T8 (C0.yield (a5) rfl rfl fQ) ae ?_);rintro _ _⟨_,(⟨rfl,rfl⟩|⟨rfl,rfl⟩),hL⟩
   .simp only[au,ax] at hL;subst hL;refine Qb ?_;intros;refine⟨(),trivial,aD,?_⟩;rw[a2,ay,aX];exact F.refl _
   .simp only[au,ax] at hL;subst hL;refine Qb ?_;intros;exact KX.a8 aF (F.c7 (F.nil _)) (.inr ⟨H8.length,rfl⟩)
  .rw[Ν h0,aI] at a2;refine Qb ?_;intros;refine⟨(),trivial,aD,?_⟩;rw[a2];exact F.refl _
 rintro _ _
 have c5:V=D1++(((x.1,x.2.1+o,q),true)::(Q6 (set.drop (j+1)) (Sp x set[(j:Int).toNat]!)++R)):=by
  rw[B,a2];simp only[aH,au]
 have a5:=a7 D1 ((x.1,x.2.1+o,q),true) _ c5;repeat first|refine Α.sn 9 ?_|refine dA ?_|intro _|refine bK ?_
 refine Α.c7 (α:=Unit) (λ_=>True) (λ_=>[(0,.func (.yield i) #[] #[]),(1,av bl),(2,av bs),(5,av bx),(6,J (j:Int)),(8,J q),(9,ah ad l.length c),(10,J l.length),(11,J (k:Int))]) (λ_=>[J7 D1.length,obj bl gu [ah ad l.length c],obj bs gu [ah K0 set.length sc],obj bx I7 [J x.1,J (x.2.1+o),J (x.2.2 - o)],ξ aL 3 ad l,ξ aL 3 K0 set]) ?_ ?_
 .rw[<-ei];refine Qb ?_;intros;exact⟨(),trivial,aD,by exact ak⟩
 rintro _ _;refine Qb ?_;intros;refine GO.cL (F.at (Ο:=J7 D1.length) (F.refl _)) ?_;((with_reducible apply GO.a8);refine GO.T8 (C0.yield (a5) rfl rfl fQ) ae ?_);rintro _ _⟨_,(⟨rfl,rfl⟩|⟨rfl,rfl⟩),hL⟩
 .simp only[au,ax] at hL;subst hL;refine Qb ?_;intros;refine⟨(Sp x set[(j:Int).toNat]!,j+1,D1++[((x.1,x.2.1+o,q),true)]),⟨e8,by dsimp only;omega,e1,by dsimp only;rw[c5];simp⟩,by dsimp only;omega,?_,?_⟩
  .dsimp only;rw[show(((j+1:Nat)):Int)=(j:Int)+1 by omega];exact aD
  .dsimp only;rw[ay,aX,e2];simp only[aL];exact ak
 .simp only[au,ax] at hL;subst hL;refine Qb ?_;intros;exact KX.a8 aF (F.c7 (F.nil _)) (.inr ⟨D1.length,rfl⟩)
end
section
open Go.V
def Up(l set:ο):ο:=(PG (l.flatMap (OC set))).foldl bH []
def WJ(l set:ο):ο:=(ja (l.flatMap (OC set))).foldl bH []
def Gg(l:List (h2×Bool))(q:h2×Bool):PG (l++[q])=PG l++(if q.2=true then[q.1] else[]):=by
 rw[IC];obtain⟨x,b⟩:=q;cases b<;>rfl
def EB(l:List (h2×Bool))(q:h2×Bool):ja (l++[q])=ja l++(if q.2=true then[] else[q.1]):=by
 rw[Gf];obtain⟨x,b⟩:=q;cases b<;>rfl
def KF{l set:ο}(hs:S4 set)(hw:∀x∈l,a0 x):(∀q∈l.flatMap (OC set),a0 q.1)/\(l.flatMap (OC set)).length<=l.length*(2*set.length+1):=by
 induction l with
 | nil=>exact⟨(λq h=>by cases h),by simp⟩
 | cons x l ih =>
  obtain⟨i1,i2⟩:=ih (λy Y=>hw y (az _ Y));obtain⟨p1,p2⟩:=Ge hs (hw x aA);rw[aT];refine⟨λq hq=>?_,?_⟩
  .rcases J8 hq with h|h
   .exact p1 q h
   .exact i1 q h
  .rw[ay,aK,ic];omega
def KG(l:List (h2×Bool)):(PG l).length<=l.length/\(ja l).length<=l.length:=by
 unfold PG ja;rw[al,al];exact⟨fx _ _,fx _ _⟩
def IB{l:List (h2×Bool)}(h:∀q∈l,a0 q.1):(∀x∈PG l,J9 x)/\∀x∈ja l,J9 x:=by
 constructor
 .intro x O;obtain⟨q,hq,rfl⟩:=H9 O;exact(h q (List.mem_filter.1 hq).1).w
 .intro x O;obtain⟨q,hq,rfl⟩:=H9 O;exact(h q (List.mem_filter.1 hq).1).w
attribute [local irreducible] Α GO GP δ ms Ev Ef C0 F CB GB V.Enters
abbrev DR:List K4:=[.ev 0,.ev 1,.ef 2,.ef 3]
def gj{φ ψ:Prop}(k:ψ)(h:Hid ψ->φ:=by intro k;first|refine GO.ci (f:=119) (Hid.out k)|refine δ.ci (f:=119) (Hid.out k)|refine GO.cf (f:=119) rfl (Hid.out k)|refine δ.cf (f:=119) rfl (Hid.out k)|refine KX.Sz (Hid.out k)):φ:=h ⟨k⟩
def gi{φ ψ:Prop}(k:ψ)(h:Hid ψ->φ:=by intro k;(with_reducible apply Α.a8);first|refine Α.dr 22 7 DR (Hid.out k)):φ:=h ⟨k⟩
def YX{φ ψ:Prop}(k:ψ)(h:Hid ψ->φ:=by intro k;(repeat (first|refine ab ?_|intro B6|refine gi ?_|refine gj ?_));(repeat revert B6);exact Hid.out k):φ:=h ⟨k⟩
def Hr(ad:OA)(c:Nat)(l:ο)(K0:OA)(sc:Nat)(set:ο)(a5:l.length<=4500)(b0:set.length<=4500)(hw:∀x∈l,a0 x)(hs:S4 set) :
  Τ Θ 303 #[ah ad l.length c,ah K0 set.length sc] [ξ aL 3 ad l,ξ aL 3 K0 set] (λv Γ=>∃B c1 M c2,v=.tuple #[ah B (Up l set).length c1,ah M (WJ l set).length c2]/\Γ = [Ω aL 3 I7 B c1 (Up l set),Ω aL 3 I7 M c2 (WJ l set)]):=by
 obtain⟨hq,a9⟩:=KF hs hw;have a3:l.length*(2*set.length+1)<=4500*9001:=Nat.mul_le_mul a5 D;unfold Up WJ;have a4:=λbl bs=>yH bl bs ad c l K0 sc set D D hw hs;generalize l.flatMap (OC set)=V at *;refine Τ.bd ?_;refine YX ?_;intros;rename_i b4 b5 bx bf;refine Α.d8 (a4 bx bf) rfl Y9.1 ae ?_ (λk=>[TN b4 ((PG (V.take k)).foldl bH []),TN b5 ((ja (V.take k)).foldl bH [])]) ?_ ?_ ?_
 .intro vs a7;obtain⟨q,_,rfl⟩:=H9 a7;rfl
 .simp only[au,ax,bj];rw[show(PG []).foldl bH []=[] from rfl,show(ja []).foldl bH []=[] from rfl];refine F.trans ?_ (F.f8 (none,0) (f:=N3 b4 []) (F.refl _));refine F.trans ?_ (F.append (F.refl (N3 b4 [] (none,0))) (F.f8 (none,0) (f:=N3 b5 []) (F.refl _)));simp only[N3,bu,au,ax];refine F.trans (F.c8 aL 3 I7) (F.trans (F.c8 aL 3 I7) ?_);exact ak
 .intro k hk;rw[al] at hk;rw[eW];have a6:V.take (k+1)=V.take k++[V[k]]:=aB hk;have a2:=hq _ (cX hk);obtain⟨l1,l2⟩:=KG (V.take k);obtain⟨w1,w2⟩:=IB (l:=V.take k) (λq h=>hq q (cp h));have b1:(V.take k).length<=41000000:=by rw[aP];omega
  have g1:=iV (PG (V.take k)) [];have g2:=iV (ja (V.take k)) [];have g3:=ky (l:=[]) (I:=PG (V.take k)) (λ_ h=>by cases h) w1;have g4:=ky (l:=[]) (I:=ja (V.take k)) (λ_ h=>by cases h) w2;rw[bu] at g1 g2;rw[a6,Gg,EB,List.foldl_append,List.foldl_append];generalize (PG (V.take k)).foldl bH []=ac at *;generalize (ja (V.take k)).foldl bH []=R at *;generalize V[k]=q at a2 ⊢;obtain⟨x,b⟩:=q;dsimp only at a2 ⊢;cases b with
  | true =>
   show Α _ _ _ ((12,.bool true)::(11,bF (aL x))::_) _ _;rw[Χ rfl,Χ rfl];refine Α.c9 (f:=N3 b4 ac) ?_;rintro⟨B,c1⟩;simp only[N3,au,ax,List.foldl_cons,List.foldl_nil];refine YX ?_;intros;refine GO.cL (F.at (Ο:=Ω aL 3 I7 B c1 ac) (F.refl _)) ?_;refine GO.ca (vY B c1 ac x D g3 a2.w) ?_;rintro _ _⟨M,c2,rfl,rfl⟩;refine YX ?_;intros;refine KX.round ?_;refine F.trans ?_ (F.f8 (M,c2) (f:=N3 b4 (bH ac x)) (F.refl _));simp only[N3,au,ax];exact ak
  | false =>
   show Α _ _ _ ((12,.bool false)::(11,bF (aL x))::_) _ _;rw[Ν ae,Ν ae];refine Α.cL F.swap ?_;refine Α.c9 (f:=N3 b5 R) ?_;rintro⟨B,c1⟩;simp only[N3,au,ax,List.foldl_cons,List.foldl_nil];refine YX ?_;intros;refine GO.cL (F.at (Ο:=Ω aL 3 I7 B c1 R) (F.refl _)) ?_;refine GO.ca (vY B c1 R x D g4 a2.w) ?_;rintro _ _⟨M,c2,rfl,rfl⟩;refine YX ?_;intros;refine KX.round ?_;refine F.trans ?_ (F.swap (Ο:=TN b5 (bH R x)));refine F.trans ?_ (F.f8 (M,c2) (f:=N3 b5 (bH R x)) (F.refl _));simp only[N3,au,ax];exact ak
 .rw[al,cz];generalize (PG V).foldl bH []=ac;generalize (ja V).foldl bH []=R;simp only[aI];refine KX.c7 (KX.f7 ?_);refine Α.c9 (f:=N3 b4 ac) ?_;rintro⟨B,c1⟩;refine Α.cL (Γ:=TN b5 R::N3 b4 ac (B,c1)) (F.perm (by simp only[N3,au,ax];exact(List.Perm.cons _ (List.Perm.swap _ _ _)).trans (List.Perm.swap _ _ _))) ?_;refine Α.c9 (f:=N3 b5 R) ?_;rintro⟨M,c2⟩;simp only[N3,au,ax];refine YX ?_;intros;refine KX.a8 (vs:=[ah B ac.length c1,ah M R.length c2]) (C7.a8 rfl (C7.a8 rfl C7.nil)) ?_ ⟨B,c1,M,c2,rfl,rfl⟩;exact ak
