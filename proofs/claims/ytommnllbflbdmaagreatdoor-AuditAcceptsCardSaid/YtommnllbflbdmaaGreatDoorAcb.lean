/- Lemmas. -/
import Derived.Test.YtommnllbflbdmaaGreatDoorAca
set_option linter.all false
set_option maxHeartbeats 2000000
namespace Go.Proofs.YtommnllbflbdmaaGreatDoor
section
open Go.V
attribute [local irreducible] G GO GP GPW GPK Ev Ef EfR Ent CB GB V.Enters
abbrev Dr:=ay8 [.ev 17,.ev 18,.ev 19,.ev 20,.ev 21,.ev 22,.ev 23,.ev 24,.ev 25,.ev 26,.ev 27,.ev 28,.ev 29,.ev 30]
abbrev Dq:=ay6 [.ev 10,.ef 11]
def Ut{φ ψ:Prop}(k:ψ)(h:Hid ψ→φ:=by intro k;(repeat (first|refine aa ?_|intro zzz|refine G.dr 59 4 Dr ?_|refine G.dr 59 5 Dq ?_));(repeat revert zzz);exact Hid.out k):φ:=h ⟨k⟩
def uX{L:LH}(ad:OA)(cap:Nat)(xs:LL)(x:Lot)(hl:xs.length≤100000000)(a5:∀y∈xs,LotW y)(hx:LotW x) :
  Tri ai 305 #[ah ad xs.length cap,aN (aj x)] (osl aj 3 tLot ad cap xs::L) (fun v L'=>∃a3 a1,v=ah a3 (aY xs x).length a1∧L' = osl aj 3 tLot a3 a1 (aY xs x)::L):=by
 refine Tri.bd ?_;simp only[aj];by_cases h0:x.2.2=0
 ·have e:aY xs x=xs:=by unfold aY;rw[if_pos h0]
  rw[e];refine Ut ?_;intros;exact KX.en ⟨ad,cap,rfl,rfl⟩
 by_cases h1:xs.length=0
 ·have e:aY xs x=xs++[x]:=by unfold aY;rw[if_neg h0,if_neg (fun h=>h.1 h1)]
  rw[e];refine Ut ?_;intros;refine GO.ef (Ef.d7 (enc:=aj) (e:=x) rfl rfl rfl rfl rfl aK (co _) ab ab) ag ?_;rintro _ _⟨ad2,a0,rfl,rfl⟩;refine Ut ?_;intros;exact KX.en ⟨ad2,a0,rfl,rfl⟩
 have a2:((xs.length:Int) - 1).toNat=xs.length - 1:=ab;have a4:=a5 _ (aI (ab:xs.length - 1<xs.length));rw[←a2] at a4;unfold LotW at a4 hx;by_cases hc:kD x xs[((xs.length:Int) - 1).toNat]!
 ·have a6:=lcont_iff.1 hc;obtain⟨a7,a8⟩:=a6
  have e:aY xs x=xs.set ((xs.length:Int) - 1).toNat (xs[((xs.length:Int) - 1).toNat]!.1,xs[((xs.length:Int) - 1).toNat]!.2.1,xs[((xs.length:Int) - 1).toNat]!.2.2+x.2.2):=by
   unfold aY;rw[a2] at hc ⊢;rw[if_neg h0,if_pos ⟨h1,hc⟩]
  rw[e];refine Ut ?_;intros;refine GPW.efu (Ef.g9 (e:=((xs[((xs.length:Int) - 1).toNat]!.1,xs[((xs.length:Int) - 1).toNat]!.2.1,xs[((xs.length:Int) - 1).toNat]!.2.2+x.2.2):Lot)) rfl rfl aK rfl ab ag) ?_;rintro _ _ rfl;refine Ut ?_;intros;exact KX.d7 al ae ⟨ad,cap,by rw[cu];rfl,rfl⟩
 ·have e:aY xs x=xs++[x]:=by
   unfold aY;rw[a2] at hc;rw[if_neg h0,if_neg (fun h=>hc h.2)]
  rw[e];rw[lcont_iff] at hc;by_cases hf:x.1=xs[((xs.length:Int) - 1).toNat]!.1
  ·have ha:¬x.2.1=xs[((xs.length:Int) - 1).toNat]!.2.1+xs[((xs.length:Int) - 1).toNat]!.2.2:=fun q=>hc ⟨hf,q⟩;refine Ut ?_;intros;refine GO.ef (Ef.d7 (enc:=aj) (e:=x) rfl rfl rfl rfl rfl aK (co _) ab ab) ag ?_;rintro _ _⟨ad2,a0,rfl,rfl⟩;refine Ut ?_;intros;exact KX.en ⟨ad2,a0,rfl,rfl⟩
  ·refine Ut ?_;intros;refine GO.ef (Ef.d7 (enc:=aj) (e:=x) rfl rfl rfl rfl rfl aK (co _) ab ab) ag ?_;rintro _ _⟨ad2,a0,rfl,rfl⟩;refine Ut ?_;intros;exact KX.en ⟨ad2,a0,rfl,rfl⟩
abbrev Ds:=ay3 [.ev 5,.ev 6,.ev 7,.ev 8,.ef 4,.ef 9,.ef 10,.ef 11,.ev 12]
def UC{φ ψ:Prop}(k:ψ)(h:Hid ψ→φ:=by intro k;(repeat (first|refine aa ?_|intro zzz|refine G.dr 17 1 Ds ?_));(repeat revert zzz);exact Hid.out k):φ:=h ⟨k⟩
def EX{L:LH}(x y:Lot):Tri ai 283 #[aN (aj x),aN (aj y)] L (fun v L'=>v=ac (hdC x y)∧L' = L):=by
 refine Tri.bd ?_;refine UC ?_;intros;refine GPW.cr (iy x.1 y.1) ?_;refine UC ?_;intros;refine GPW.cr (iy x.2.1 y.2.1) ?_;refine UC ?_;intros;rename_i bc;refine GPW.ent (Ent.f7 (enc:=encZ .i64) (sz:=1) (xs:=[cmpI x.1 y.1,cmpI x.2.1 y.2.1]) rfl rfl (fun _ _=>rfl) bZ) ?_;refine GPW.cr (lp (some ⟨bc,0,none⟩) 2 (cmpI x.1 y.1) (cmpI x.2.1 y.2.1)) ?_;refine UC ?_;intros;exact KX.en ⟨rfl,rfl⟩
def wH{E cap:Nat}{ad:OA}{xs:LL}(a0:xs.length<4611686018427387904) :
  Tri ai 282 #[ah ad xs.length cap,.func (.func 283) #[] #[]] [osl aj 3 E ad cap xs] (fun v L'=>v=.tuple #[]∧∃ys,ez hdC xs ys∧L' = [osl aj 3 E ad cap ys]) :=
 Tri.d7 (ρ:=Tryz.sortL_ren) Tryz.sortL (k:=3) Tryz.isAgg91 Tryz.sizeOf91 (fun _=>rfl) co (Lc:=[]) hdC qZ HH en283.1 (fun _ _ _=>trivial) (fun x y=>(EX (L:=[]) x y).mono (fun _ _ h=>h.1)) a0
def pL{ys:LL}{k:Nat}(h:k<ys.length):zset (ys.take (k+1))=zst (zset (ys.take k)) ys[k]!:=ix zst [] h
def HL(s:LL)(x:Lot):(zst s x).length≤s.length+1:=by
 unfold zst;split
 ·rw[cu];omega
 ·rw[ay,aJ];omega
def wq(ys:LL):∀k,k≤ys.length→(zset (ys.take k)).length≤k
 | 0,_=>aB _
 | k+1,h=>by
  have h1:=wq ys k ab;have h2:=HL (zset (ys.take k)) ys[k]!;rw[pL ab];omega
def EB{ys:LL}(hw:∀y∈ys,LotOk y):∀k,k≤ys.length→∀y∈zset (ys.take k),LotOk y
 | 0,_=>fun _ h=>by cases h
 | k+1,h=>by
  have h1:=EB hw k ab;have hx:=hw _ (aI (ab:k<ys.length));rw[pL ab];generalize ys[k]! = x at hx;generalize zset (ys.take k)=s at h1;unfold LotOk at hx;unfold zst;split
  ·rename_i hc;intro y hy;rcases ee hy with hy|rfl
   ·exact h1 y hy
   ·have:=h1 _ (aI (ab:s.length - 1<s.length))
    unfold LotOk at this ⊢;dsimp only;omega
  ·intro y hy;rcases List.mem_append.1 hy with hy|hy
   ·exact h1 y hy
   ·rw[List.mem_singleton.1 hy];unfold LotOk;omega
abbrev Dt:=ay8 [.ev 17,.ev 18,.ev 19,.ev 20,.ev 21,.ev 22,.ev 23,.ev 24,.ev 25,.ev 26,.ev 27,.ev 28,.ev 29,.ev 30]
abbrev zW:=ay8 [.ev 17,.ef 18]
def UG{φ ψ:Prop}(k:ψ)(h:Hid ψ→φ:=by intro k;(repeat (first|refine aa ?_|intro zzz|refine G.dr 80 8 Dt ?_|refine G.dr 80 10 zW ?_));(repeat revert zzz);exact Hid.out k):φ:=h ⟨k⟩
def ka{L:LH}(ad:OA)(n c:Nat)(xs:LL)[Rds L ad Lot aj 3 xs](hn:n=xs.length)(hl:xs.length≤100000)(hw:∀x∈xs,LotOk x) :
  Tri ai 263 #[ah ad n c] L (fun v L'=>∃b0 a4 ys,v=ah b0 (zset ys).length a4∧ez hdC xs ys∧L' = osl aj 3 tLot b0 a4 (zset ys)::L):=by
 subst hn;refine Tri.bd ?_;refine UG ?_;intros;refine GO.ca (ig ad xs.length c xs rfl ab) ?_;rintro _ _⟨a2,c1,rfl,rfl⟩;refine UG ?_;intros;(first|refine GO.ef (Ef.call (wH (E:=tLot) (ad:=a2) (cap:=c1) (xs:=xs) ab) rfl cJ) ag ?_);rintro _ _⟨_,⟨rfl,ys,a7,rfl⟩,hL⟩;simp only[ao,an] at hL;subst hL;have b6:=a7.1.length_eq;have b4:∀y∈ys,LotOk y:=fun y hy=>hw y (a7.1.mem_iff.1 hy);rw[←b6];refine UG ?_;intros;refine G.ent (L':=osl aj 3 tLot none 0 []::osl aj 3 tLot a2 c1 ys::L) (Ent.d8 aj 3 tLot) ?_;refine G.loop (α:=Nat×OA×Nat) (fun g=>g.1≤ys.length) (fun g=>[(4,ah g.2.1 (zset (ys.take g.1)).length g.2.2),(13,ah a2 ys.length c1),(14,ac ys.length),(15,ac (g.1:Int))]) (fun g=>osl aj 3 tLot g.2.1 g.2.2 (zset (ys.take g.1))::osl aj 3 tLot a2 c1 ys::L) (fun g=>ys.length - g.1) (0,none,0) (aw _) av (Ent.refl _) ?_;rintro⟨k,ad2,a1⟩ hk;dsimp only at hk ⊢;by_cases b5:k<ys.length
 case neg =>
  rw[aF (ab:ys.length≤k)];refine UG ?_;intros;exact KX.en ⟨ad2,a1,ys,rfl,a7,rfl⟩
 have b9:(k:Int).toNat=k:=aC k;have a5 : (k:Int).toNat<ys.length:=ab;have hx:=b4 _ (aI a5);have et:=pL b5;rw[show ys[k]! = ys[(k:Int).toNat]! by rw[b9]] at et;have b8:=wq ys k ab;have b3:=EB b4 k ab;obtain⟨x,b2⟩:∃x,ys[(k:Int).toNat]! = x:=⟨_,rfl⟩;rw[b2] at hx et;generalize zset (ys.take k)=s at b8 b3 et ⊢;have b7:=hx;unfold LotOk at b7;refine G.g7 (show ∀θ R w,Sat θ ((osl aj 3 tLot ad2 a1 s::osl aj 3 tLot a2 c1 ys::L)++R) w→(0<s.length→EA ad2) from fun θ R w q h0=>GS (ad:=ad2) (cap:=a1) (xs:=s) (enc:=aj) (sz:=3) (E:=tLot) h0 θ R w q) ?_;intro a6;refine UG ?_;intros;rw[b2];simp only[aj];by_cases h1:s.length=0
 ·have e:zst s x=s++[x]:=by unfold zst;rw[if_neg (fun q=>q.1 h1)]
  refine UG ?_;intros;refine GO.ef (Ef.d7 (enc:=aj) (e:=x) rfl rfl rfl rfl rfl aK (co _) ab ab) ag ?_;rintro _ _⟨a3,a0,rfl,rfl⟩;refine UG ?_;intros;refine⟨(k+1,a3,a0),by dsimp only;omega,by dsimp only;omega,?_,?_⟩
  ·dsimp only;rw[et,e,aV k];exact av
  ·dsimp only;rw[et,e];exact ae
 have a8:=a6 ab;have a9:((s.length:Int) - 1).toNat=s.length - 1:=ab;have b1:=b3 _ (aI (ab:s.length - 1<s.length));rw[←a9] at b1;unfold LotOk at b1;by_cases hc:s[((s.length:Int) - 1).toNat]!.1=x.1∧x.2.1≤s[((s.length:Int) - 1).toNat]!.2.1+s[((s.length:Int) - 1).toNat]!.2.2
 ·have e:zst s x=s.set ((s.length:Int) - 1).toNat (s[((s.length:Int) - 1).toNat]!.1,s[((s.length:Int) - 1).toNat]!.2.1,max s[((s.length:Int) - 1).toNat]!.2.2 (x.2.1+x.2.2 - s[((s.length:Int) - 1).toNat]!.2.1)):=by
   unfold zst;rw[a9] at hc ⊢;rw[if_pos ⟨h1,hc⟩]
  obtain⟨c2,c0⟩:=hc;refine UG ?_;intros;refine GPW.evP (Ev.l9 rfl a8) ag ?_;refine UG ?_;intros;refine GPW.evP (Ev.l9 rfl a8) ag ?_;refine UG ?_;intros;refine GPW.evP (Ev.l9 rfl a8) ag ?_;refine UG ?_;intros;refine GPW.efu (Ef.g9 (e:=((s[((s.length:Int) - 1).toNat]!.1,s[((s.length:Int) - 1).toNat]!.2.1,max s[((s.length:Int) - 1).toNat]!.2.2 (x.2.1+x.2.2 - s[((s.length:Int) - 1).toNat]!.2.1)):Lot)) rfl rfl aK rfl ab ag) ?_;rintro _ _ rfl;refine UG ?_;intros;refine⟨(k+1,ad2,a1),by dsimp only;omega,by dsimp only;omega,?_,?_⟩
  ·dsimp only;rw[et,e,cu,aV k];exact av
  ·dsimp only;rw[et,e];exact ae
 have e:zst s x=s++[x]:=by
  unfold zst;rw[a9] at hc;rw[if_neg (fun q=>hc q.2)]
 by_cases hf:s[((s.length:Int) - 1).toNat]!.1=x.1
 ·have ha:¬x.2.1≤s[((s.length:Int) - 1).toNat]!.2.1+s[((s.length:Int) - 1).toNat]!.2.2:=fun q=>hc ⟨hf,q⟩;refine UG ?_;intros;refine GO.ef (Ef.d7 (enc:=aj) (e:=x) rfl rfl rfl rfl rfl aK (co _) ab ab) ag ?_;rintro _ _⟨a3,a0,rfl,rfl⟩;refine UG ?_;intros;refine⟨(k+1,a3,a0),by dsimp only;omega,by dsimp only;omega,?_,?_⟩
  ·dsimp only;rw[et,e,aV k];exact av
  ·dsimp only;rw[et,e];exact ae
 ·refine UG ?_;intros;refine GO.ef (Ef.d7 (enc:=aj) (e:=x) rfl rfl rfl rfl rfl aK (co _) ab ab) ag ?_;rintro _ _⟨a3,a0,rfl,rfl⟩;refine UG ?_;intros;refine⟨(k+1,a3,a0),by dsimp only;omega,by dsimp only;omega,?_,?_⟩
  ·dsimp only;rw[et,e,aV k];exact av
  ·dsimp only;rw[et,e];exact ae
end
section
open Go.V
def xf{x:Lot}{set:LL}(h:SetOk set){p q:Nat}(a2:p≤q)(hq:q<set.length)(hp:pzP x set[p]!):pzP x set[q]!:=by
 rcases cc p q with a0|a1
 ·have h1:=(List.pairwise_iff_getElem.1 h.sl) p q ab hq a0;have h2:=h.ok _ (aI hq);rw[getElem!_of (ab:p<set.length)] at hp;rw[getElem!_of hq] at h2 ⊢;unfold pzP at hp ⊢;unfold sl at h1;unfold LotOk at h2;omega
 ·obtain rfl:p=q:=ab;exact hp
def HC(q:Lot×Bool):LV:=[aN (aj q.1),.bool q.2]
attribute [local irreducible] G GO GP GPW GPK Ev Ef EfR Ent CB GB V.Enters
abbrev Dp:=ay8 [.ev 17,.ev 18,.ev 19,.ev 20,.ev 21,.ev 22,.ev 23,.ev 24,.ev 25,.ev 26,.ev 27,.ev 28,.ev 29,.ev 30,.ev 31,.ev 32,.ev 33,.ev 34]
def UW{φ ψ:Prop}(k:ψ)(h:Hid ψ→φ:=by intro k;(repeat (first|refine aa ?_|intro zzz|refine G.dr 39 1 Dp ?_));(repeat revert zzz);exact Hid.out k):φ:=h ⟨k⟩
def DG{L:LH}(bs bx:Nat)(sad:OA)(sc:Nat)(set:LL)[hr:Rds L sad Lot aj 3 set](x:Lot)(hx:LotW x)(hw:∀y∈set,LotOk y)(a2:set.length≤1000000)(k:Nat)(hk:k<set.length) :
  Tri ai 328 #[ac (k:Int),ax bs,ax bx] (obj bs fL [ah sad set.length sc]::obj bx tLot (aj x)::L) (fun v L'=>v=.bool (dB (pzP x set[k]!))∧L' = obj bs fL [ah sad set.length sc]::obj bx tLot (aj x)::L):=by
 have a1:(k:Int).toNat=k:=aC k;have a0:=hw _ (aI hk);unfold LotOk at a0;unfold LotW at hx;rw[show set[k]! = set[(k:Int).toNat]! by rw[a1]] at a0 ⊢;simp only[aj];refine Tri.bd ?_;by_cases c1:x.1<set[(k:Int).toNat]!.1
 ·rw[aS (show pzP x set[(k:Int).toNat]! from .inl c1)];refine UW ?_;intros;exact KX.en ⟨rfl,rfl⟩
 by_cases c2:set[(k:Int).toNat]!.1=x.1
 ·by_cases c3:x.2.1<set[(k:Int).toNat]!.2.1+set[(k:Int).toNat]!.2.2
  ·rw[aS (show pzP x set[(k:Int).toNat]! from .inr ⟨c2,c3⟩)];refine UW ?_;intros;exact KX.d7 al ae ⟨by rw[aS c3];rfl,rfl⟩
  ·rw[aG (fun h:pzP x set[(k:Int).toNat]! =>h.elim c1 (fun q=>c3 q.2))];refine UW ?_;intros;exact KX.d7 al ae ⟨by rw[aG c3];rfl,rfl⟩
 ·rw[aG (fun h:pzP x set[(k:Int).toNat]! =>h.elim c1 (fun q=>c2 q.1))];refine UW ?_;intros;exact KX.en ⟨rfl,rfl⟩
def za{L:LH}(bs bx:Nat)(sad:OA)(sc:Nat)(set:LL)[hr:Rds L sad Lot aj 3 set](x:Lot)(hx:LotW x)(hs:SetOk set)(a1:set.length≤1000000) :
  Tri ai 327 #[ac (set.length:Int),.func (.func 328) #[] #[ax bs,ax bx]] (obj bs fL [ah sad set.length sc]::obj bx tLot (aj x)::L) (fun v L'=>∃i:Nat,v=ac (i:Int)∧(i≤set.length∧(∀p,p<i→¬pzP x set[p]!)∧(i<set.length→pzP x set[i]!))∧L' = obj bs fL [ah sad set.length sc]::obj bx tLot (aj x)::L):=by
 refine Tri.bd ?_;refine Jq ?_;intros;refine G.loop (α:=Nat×Nat) (fun g=>(g.1≤g.2∧g.2≤set.length)∧(∀p,p<g.1→¬pzP x set[p]!)∧∀p,g.2≤p→p<set.length→pzP x set[p]!) (fun g=>[(1,.func (.func 328) #[] #[ax bs,ax bx]),(5,ac (g.1:Int)),(6,ac (g.2:Int))]) (fun _=>obj bs fL [ah sad set.length sc]::obj bx tLot (aj x)::L) (fun g=>g.2 - g.1) (0,set.length) ⟨⟨aw _,aB _⟩,fun p hp=>absurd hp (cl p),fun p h1 h2=>absurd h2 (by dsimp only at h1;omega)⟩ av (Ent.refl _) ?_;rintro⟨i,j⟩ ⟨⟨h1,h2⟩,h3,h4⟩;dsimp only at h1 h2 h3 h4 ⊢;by_cases a3:i<j
 case neg =>
  have a2:i=j:=ab;subst a2;refine Jq ?_;intros;exact KX.en ⟨i,rfl,⟨h2,h3,fun q=>h4 i (aB _) q⟩,rfl⟩
 refine Jq ?_;intros;refine GO.ev (Ev.shr rfl rfl ag) ag ?_
 have e2:((i:Int)+(j:Int)).fdiv (2 ^ min ((1:Int).toNat) IntKind.u64.bits)=(((i+j) / 2:Nat):Int):=by
  rw[Int.fdiv_eq_ediv_of_nonneg _ ag];simp[IntKind.bits]
 rw[e2];obtain⟨h,hh⟩:∃h,(i+j) / 2=h:=⟨_,rfl⟩;rw[hh];refine Jq ?_;intros;refine GO.ef (Ef.d8 rfl rfl (DG bs bx sad sc set x hx hs.ok a1 h ab)) ag ?_;rintro _ _⟨rfl,rfl⟩;by_cases hc:pzP x set[h]!
 ·rw[aS hc];refine Jq ?_;intros;exact⟨(i,h),⟨⟨ab,ab⟩,h3,fun p hp a0=>xf hs hp a0 hc⟩,by dsimp only;omega,av,Ent.refl _⟩
 ·rw[aG hc];refine Jq ?_;intros;refine⟨(h+1,j),⟨⟨ab,ab⟩,fun p hp q=>?_,h4⟩,by dsimp only;omega,?_,Ent.refl _⟩
  ·dsimp only at hp;exact hc (xf hs (ab:p≤h) ab q)
  ·rw[show(((h+1,j):Nat×Nat).1:Int)=(h:Int)+1 by simp];exact av
