/- Lemmas. -/
import Derived.Test.YtommnllbflbdmaaGreatDoorCatbj
set_option linter.all false
set_option maxHeartbeats 4000000
namespace Go.Proofs.YtommnllbflbdmaaGreatDoor
section
open Go.V
attribute [local irreducible] G GO GP GPW GPK Ev Ef EfR Ent CB GB V.Enters
abbrev Cm:=ar8 [.ev 17,.ev 18,.ev 19,.ev 20,.ev 21,.ev 22,.ev 23,.ev 24,.ev 25,.ev 26,.ev 27,.ev 28,.ev 29,.ev 30]
abbrev Cl:=ar6 [.ev 10,.ef 11]
def Pd{φ ψ:Prop}(k:ψ)(h:Hid ψ→φ:=by intro k;(repeat (first|refine aa ?_|intro zzz|refine G.dr 59 4 Cm ?_|refine G.dr 59 5 Cl ?_));(repeat revert zzz);exact Hid.out k):φ:=h ⟨k⟩
def uh{L:LH}(ad:OA)(cap:Nat)(xs:LL1)(x:Lot)(hl:xs.length≤100000000)(a7:∀y∈xs,LotW y)(hx:LotW x) :
  Tri ai 305 #[ae ad xs.length cap,aN (ay x)] (osl ay 3 tLot ad cap xs::L) (fun v L'=>∃a4 a2,v=ae a4 (ba xs x).length a2∧L' = osl ay 3 tLot a4 a2 (ba xs x)::L):=by
 refine Tri.bd ?_;simp only[ay];by_cases h0:x.2.2=0
 ·have e:ba xs x=xs:=by unfold ba;rw[if_pos h0]
  rw[e];refine Pd ?_;intros;exact KX.en ⟨ad,cap,rfl,rfl⟩
 by_cases h1:xs.length=0
 ·have e:ba xs x=xs++[x]:=by unfold ba;rw[if_neg h0,if_neg (fun h=>h.1 h1)]
  rw[e];refine Pd ?_;intros;refine GO.ef (Ef.d7 (enc:=ay) (e:=x) rfl rfl rfl rfl rfl aJ (dH _) ab ab) ag ?_;rintro _ _⟨a1,a0,rfl,rfl⟩;refine Pd ?_;intros;exact KX.en ⟨a1,a0,rfl,rfl⟩
 have a3:((xs.length:Int) - 1).toNat=xs.length - 1:=ab;have a5:=a7 _ (aL (ab:xs.length - 1<xs.length));rw[←a3] at a5;unfold LotW at a5 hx;by_cases hc:lm x xs[((xs.length:Int) - 1).toNat]!
 ·have a6:=lcont_iff.1 hc;obtain⟨a8,a9⟩:=a6
  have e:ba xs x=xs.set ((xs.length:Int) - 1).toNat (xs[((xs.length:Int) - 1).toNat]!.1,xs[((xs.length:Int) - 1).toNat]!.2.1,xs[((xs.length:Int) - 1).toNat]!.2.2+x.2.2):=by
   unfold ba;rw[a3] at hc ⊢;rw[if_neg h0,if_pos ⟨h1,hc⟩]
  rw[e];refine Pd ?_;intros;refine GPW.efu (Ef.l7 (e:=((xs[((xs.length:Int) - 1).toNat]!.1,xs[((xs.length:Int) - 1).toNat]!.2.1,xs[((xs.length:Int) - 1).toNat]!.2.2+x.2.2):Lot)) rfl rfl aJ rfl ab ag) ?_;rintro _ _ rfl;refine Pd ?_;intros;exact KX.d7 av ah ⟨ad,cap,by rw[bJ];rfl,rfl⟩
 ·have e:ba xs x=xs++[x]:=by
   unfold ba;rw[a3] at hc;rw[if_neg h0,if_neg (fun h=>hc h.2)]
  rw[e];rw[lcont_iff] at hc;by_cases hf:x.1=xs[((xs.length:Int) - 1).toNat]!.1
  ·have ha:¬x.2.1=xs[((xs.length:Int) - 1).toNat]!.2.1+xs[((xs.length:Int) - 1).toNat]!.2.2:=fun q=>hc ⟨hf,q⟩;refine Pd ?_;intros;refine GO.ef (Ef.d7 (enc:=ay) (e:=x) rfl rfl rfl rfl rfl aJ (dH _) ab ab) ag ?_;rintro _ _⟨a1,a0,rfl,rfl⟩;refine Pd ?_;intros;exact KX.en ⟨a1,a0,rfl,rfl⟩
  ·refine Pd ?_;intros;refine GO.ef (Ef.d7 (enc:=ay) (e:=x) rfl rfl rfl rfl rfl aJ (dH _) ab ab) ag ?_;rintro _ _⟨a1,a0,rfl,rfl⟩;refine Pd ?_;intros;exact KX.en ⟨a1,a0,rfl,rfl⟩
abbrev Cn:=ar3 [.ev 5,.ev 6,.ev 7,.ev 8,.ef 4,.ef 9,.ef 10,.ef 11,.ev 12]
def Pm{φ ψ:Prop}(k:ψ)(h:Hid ψ→φ:=by intro k;(repeat (first|refine aa ?_|intro zzz|refine G.dr 17 1 Cn ?_));(repeat revert zzz);exact Hid.out k):φ:=h ⟨k⟩
def Ed{L:LH}(x y:Lot):Tri ai 283 #[aN (ay x),aN (ay y)] L (rtQ (ac (hdC x y)) L):=by
 refine Tri.bd ?_;refine Pm ?_;intros;refine GPW.cr (jm x.1 y.1) ?_;refine Pm ?_;intros;refine GPW.cr (jm x.2.1 y.2.1) ?_;refine Pm ?_;intros;rename_i bc;refine GPW.ent (Ent.e9 (enc:=encZ .i64) (sz:=1) (xs:=[cmpI x.1 y.1,cmpI x.2.1 y.2.1]) rfl rfl (fun _ _=>rfl) bH) ?_;refine GPW.cr (mB (some ⟨bc,0,none⟩) 2 (cmpI x.1 y.1) (cmpI x.2.1 y.2.1)) ?_;refine Pm ?_;intros;exact KX.en ⟨rfl,rfl⟩
def vR{E cap:Nat}{ad:OA}{xs:LL1}(a0:xs.length<4611686018427387904) :
  Tri ai 282 #[ae ad xs.length cap,.func (.func 283) #[] #[]] [osl ay 3 E ad cap xs] (fun v L'=>v=.tuple #[]∧∃ys,eX hdC xs ys∧L' = [osl ay 3 E ad cap ys]) :=
 Tri.d7 (ρ:=Tryz.sortL_ren) Tryz.sortL (k:=3) Tryz.isAgg91 Tryz.sizeOf91 (fun _=>rfl) dH (Lc:=[]) hdC tN GM en283.1 (fun _ _ _=>trivial) (fun x y=>(Ed (L:=[]) x y).mono (fun _ _ h=>h.1)) a0
def pf{ys:LL1}{k:Nat}(h:k<ys.length):zset (ys.take (k+1))=zst (zset (ys.take k)) ys[k]!:=kh zst [] h
def GT(s:LL1)(x:Lot):(zst s x).length≤s.length+1:=by
 unfold zst;split
 ·rw[bJ];omega
 ·rw[ax,aG];omega
def vv(ys:LL1):∀k,k≤ys.length→(zset (ys.take k)).length≤k
 | 0,_=>aI _
 | k+1,h=>by
  have h1:=vv ys k ab;have h2:=GT (zset (ys.take k)) ys[k]!;rw[pf ab];omega
def DG{ys:LL1}(hw:∀y∈ys,LotOk y):∀k,k≤ys.length→∀y∈zset (ys.take k),LotOk y
 | 0,_=>fun _ h=>by cases h
 | k+1,h=>by
  have h1:=DG hw k ab;have hx:=hw _ (aL (ab:k<ys.length));rw[pf ab];generalize ys[k]! = x at hx;generalize zset (ys.take k)=s at h1;unfold LotOk at hx;unfold zst;split
  ·rename_i hc;intro y hy;rcases bX hy with hy|rfl
   ·exact h1 y hy
   ·have:=h1 _ (aL (ab:s.length - 1<s.length))
    unfold LotOk at this ⊢;dsimp only;omega
  ·intro y hy;rcases List.mem_append.1 hy with hy|hy
   ·exact h1 y hy
   ·rw[List.mem_singleton.1 hy];unfold LotOk;omega
abbrev Co:=ar8 [.ev 17,.ev 18,.ev 19,.ev 20,.ev 21,.ev 22,.ev 23,.ev 24,.ev 25,.ev 26,.ev 27,.ev 28,.ev 29,.ev 30]
abbrev yS:=ar8 [.ev 17,.ef 18]
def Pq{φ ψ:Prop}(k:ψ)(h:Hid ψ→φ:=by intro k;(repeat (first|refine aa ?_|intro zzz|refine G.dr 80 8 Co ?_|refine G.dr 80 10 yS ?_));(repeat revert zzz);exact Hid.out k):φ:=h ⟨k⟩
def jK{L:LH}(ad:OA)(n c:Nat)(xs:LL1)[Rds L ad Lot ay 3 xs](hn:n=xs.length)(hl:xs.length≤100000)(hw:∀x∈xs,LotOk x) :
  Tri ai 263 #[ae ad n c] L (fun v L'=>∃b1 a5 ys,v=ae b1 (zset ys).length a5∧eX hdC xs ys∧L' = osl ay 3 tLot b1 a5 (zset ys)::L):=by
 subst hn;refine Tri.bd ?_;refine Pq ?_;intros;refine GO.ca (gV ad xs.length c xs rfl ab) ?_;rintro _ _⟨a2,c1,rfl,rfl⟩;refine Pq ?_;intros;(first|refine GO.ef (Ef.call (vR (E:=tLot) (ad:=a2) (cap:=c1) (xs:=xs) ab) rfl cT) ag ?_);rintro _ _⟨_,⟨rfl,ys,b0,rfl⟩,hL⟩;simp only[ak,aj] at hL;subst hL;have c0:=b0.1.length_eq;have b5:∀y∈ys,LotOk y:=fun y hy=>hw y (b0.1.mem_iff.1 hy);rw[←c0];refine Pq ?_;intros;refine G.ent (L':=osl ay 3 tLot none 0 []::osl ay 3 tLot a2 c1 ys::L) (Ent.d8 ay 3 tLot) ?_;refine G.loop (α:=Nat×OA×Nat) (fun g=>g.1≤ys.length) (fun g=>[(4,ae g.2.1 (zset (ys.take g.1)).length g.2.2),(13,ae a2 ys.length c1),(14,ac ys.length),(15,ac (g.1:Int))]) (fun g=>osl ay 3 tLot g.2.1 g.2.2 (zset (ys.take g.1))::osl ay 3 tLot a2 c1 ys::L) (fun g=>ys.length - g.1) (0,none,0) (az _) an (Ent.refl _) ?_;rintro⟨k,a3,a1⟩ hk;dsimp only at hk ⊢;by_cases b7:k<ys.length
 case neg =>
  rw[aB (ab:ys.length≤k)];refine Pq ?_;intros;exact KX.en ⟨a3,a1,ys,rfl,b0,rfl⟩
 have b6:(k:Int).toNat=k:=aD k;have a9 : (k:Int).toNat<ys.length:=ab;have hx:=b5 _ (aL a9);have et:=pf b7;rw[show ys[k]! = ys[(k:Int).toNat]! by rw[b6]] at et;have b8:=vv ys k ab;have b3:=DG b5 k ab;obtain⟨x,b4⟩:∃x,ys[(k:Int).toNat]! = x:=⟨_,rfl⟩;rw[b4] at hx et;generalize zset (ys.take k)=s at b8 b3 et ⊢;have b9:=hx;unfold LotOk at b9;refine G.e8 (show ∀θ R w,Sat θ ((osl ay 3 tLot a3 a1 s::osl ay 3 tLot a2 c1 ys::L)++R) w→(0<s.length→DE a3) from fun θ R w q h0=>FU (ad:=a3) (cap:=a1) (xs:=s) (enc:=ay) (sz:=3) (E:=tLot) h0 θ R w q) ?_;intro a7;refine Pq ?_;intros;rw[b4];simp only[ay];by_cases h1:s.length=0
 ·have e:zst s x=s++[x]:=by unfold zst;rw[if_neg (fun q=>q.1 h1)]
  refine Pq ?_;intros;refine GO.ef (Ef.d7 (enc:=ay) (e:=x) rfl rfl rfl rfl rfl aJ (dH _) ab ab) ag ?_;rintro _ _⟨a4,a0,rfl,rfl⟩;refine Pq ?_;intros;refine⟨(k+1,a4,a0),by dsimp only;omega,by dsimp only;omega,?_,?_⟩
  ·dsimp only;rw[et,e,aU k];exact an
  ·dsimp only;rw[et,e];exact ah
 have a6:=a7 ab;have a8:((s.length:Int) - 1).toNat=s.length - 1:=ab;have b2:=b3 _ (aL (ab:s.length - 1<s.length));rw[←a8] at b2;unfold LotOk at b2;by_cases hc:s[((s.length:Int) - 1).toNat]!.1=x.1∧x.2.1≤s[((s.length:Int) - 1).toNat]!.2.1+s[((s.length:Int) - 1).toNat]!.2.2
 ·have e:zst s x=s.set ((s.length:Int) - 1).toNat (s[((s.length:Int) - 1).toNat]!.1,s[((s.length:Int) - 1).toNat]!.2.1,max s[((s.length:Int) - 1).toNat]!.2.2 (x.2.1+x.2.2 - s[((s.length:Int) - 1).toNat]!.2.1)):=by
   unfold zst;rw[a8] at hc ⊢;rw[if_pos ⟨h1,hc⟩]
  obtain⟨c2,c3⟩:=hc;refine Pq ?_;intros;refine GPW.evP (Ev.m8 rfl a6) ag ?_;refine Pq ?_;intros;refine GPW.evP (Ev.m8 rfl a6) ag ?_;refine Pq ?_;intros;refine GPW.evP (Ev.m8 rfl a6) ag ?_;refine Pq ?_;intros;refine GPW.efu (Ef.l7 (e:=((s[((s.length:Int) - 1).toNat]!.1,s[((s.length:Int) - 1).toNat]!.2.1,max s[((s.length:Int) - 1).toNat]!.2.2 (x.2.1+x.2.2 - s[((s.length:Int) - 1).toNat]!.2.1)):Lot)) rfl rfl aJ rfl ab ag) ?_;rintro _ _ rfl;refine Pq ?_;intros;refine⟨(k+1,a3,a1),by dsimp only;omega,by dsimp only;omega,?_,?_⟩
  ·dsimp only;rw[et,e,bJ,aU k];exact an
  ·dsimp only;rw[et,e];exact ah
 have e:zst s x=s++[x]:=by
  unfold zst;rw[a8] at hc;rw[if_neg (fun q=>hc q.2)]
 by_cases hf:s[((s.length:Int) - 1).toNat]!.1=x.1
 ·have ha:¬x.2.1≤s[((s.length:Int) - 1).toNat]!.2.1+s[((s.length:Int) - 1).toNat]!.2.2:=fun q=>hc ⟨hf,q⟩;refine Pq ?_;intros;refine GO.ef (Ef.d7 (enc:=ay) (e:=x) rfl rfl rfl rfl rfl aJ (dH _) ab ab) ag ?_;rintro _ _⟨a4,a0,rfl,rfl⟩;refine Pq ?_;intros;refine⟨(k+1,a4,a0),by dsimp only;omega,by dsimp only;omega,?_,?_⟩
  ·dsimp only;rw[et,e,aU k];exact an
  ·dsimp only;rw[et,e];exact ah
 ·refine Pq ?_;intros;refine GO.ef (Ef.d7 (enc:=ay) (e:=x) rfl rfl rfl rfl rfl aJ (dH _) ab ab) ag ?_;rintro _ _⟨a4,a0,rfl,rfl⟩;refine Pq ?_;intros;refine⟨(k+1,a4,a0),by dsimp only;omega,by dsimp only;omega,?_,?_⟩
  ·dsimp only;rw[et,e,aU k];exact an
  ·dsimp only;rw[et,e];exact ah
end
section
open Go.V
def wm{x:Lot}{set:LL1}(h:SetOk set){p q:Nat}(a2:p≤q)(hq:q<set.length)(hp:pzP x set[p]!):pzP x set[q]!:=by
 rcases dl p q with a0|a1
 ·have h1:=(List.pairwise_iff_getElem.1 h.sl) p q ab hq a0;have h2:=h.ok _ (aL hq);rw[getElem!_of (ab:p<set.length)] at hp;rw[getElem!_of hq] at h2 ⊢;unfold pzP at hp ⊢;unfold sl at h1;unfold LotOk at h2;omega
 ·obtain rfl:p=q:=ab;exact hp
def GD(q:Lot×Bool):LV:=[aN (ay q.1),.bool q.2]
attribute [local irreducible] G GO GP GPW GPK Ev Ef EfR Ent CB GB V.Enters
abbrev Ck:=ar8 [.ev 17,.ev 18,.ev 19,.ev 20,.ev 21,.ev 22,.ev 23,.ev 24,.ev 25,.ev 26,.ev 27,.ev 28,.ev 29,.ev 30,.ev 31,.ev 32,.ev 33,.ev 34]
def PI{φ ψ:Prop}(k:ψ)(h:Hid ψ→φ:=by intro k;(repeat (first|refine aa ?_|intro zzz|refine G.dr 39 1 Ck ?_));(repeat revert zzz);exact Hid.out k):φ:=h ⟨k⟩
def CE{L:LH}(bs bx:Nat)(sad:OA)(sc:Nat)(set:LL1)[hr:Rds L sad Lot ay 3 set](x:Lot)(hx:LotW x)(hw:∀y∈set,LotOk y)(a2:set.length≤1000000)(k:Nat)(hk:k<set.length) :
  Tri ai 328 #[ac (k:Int),aq bs,aq bx] (obj bs ft [ae sad set.length sc]::obj bx tLot (ay x)::L) (rtQ (.bool (dB (pzP x set[k]!))) (obj bs ft [ae sad set.length sc]::obj bx tLot (ay x)::L)):=by
 have a1:(k:Int).toNat=k:=aD k;have a0:=hw _ (aL hk);unfold LotOk at a0;unfold LotW at hx;rw[show set[k]! = set[(k:Int).toNat]! by rw[a1]] at a0 ⊢;simp only[ay];refine Tri.bd ?_;by_cases c1:x.1<set[(k:Int).toNat]!.1
 ·rw[aZ (show pzP x set[(k:Int).toNat]! from .inl c1)];refine PI ?_;intros;exact KX.en ⟨rfl,rfl⟩
 by_cases c2:set[(k:Int).toNat]!.1=x.1
 ·by_cases c3:x.2.1<set[(k:Int).toNat]!.2.1+set[(k:Int).toNat]!.2.2
  ·rw[aZ (show pzP x set[(k:Int).toNat]! from .inr ⟨c2,c3⟩)];refine PI ?_;intros;exact KX.d7 av ah ⟨by rw[aZ c3];rfl,rfl⟩
  ·rw[aM (fun h:pzP x set[(k:Int).toNat]! =>h.elim c1 (fun q=>c3 q.2))];refine PI ?_;intros;exact KX.d7 av ah ⟨by rw[aM c3];rfl,rfl⟩
 ·rw[aM (fun h:pzP x set[(k:Int).toNat]! =>h.elim c1 (fun q=>c2 q.1))];refine PI ?_;intros;exact KX.en ⟨rfl,rfl⟩
def yy{L:LH}(bs bx:Nat)(sad:OA)(sc:Nat)(set:LL1)[hr:Rds L sad Lot ay 3 set](x:Lot)(hx:LotW x)(hs:SetOk set)(a2:set.length≤1000000) :
  Tri ai 327 #[ac (set.length:Int),.func (.func 328) #[] #[aq bs,aq bx]] (obj bs ft [ae sad set.length sc]::obj bx tLot (ay x)::L) (fun v L'=>∃i:Nat,v=ac (i:Int)∧(i≤set.length∧(∀p,p<i→¬pzP x set[p]!)∧(i<set.length→pzP x set[i]!))∧L' = obj bs ft [ae sad set.length sc]::obj bx tLot (ay x)::L):=by
 refine Tri.bd ?_;refine IF ?_;intros;refine G.loop (α:=Nat×Nat) (fun g=>(g.1≤g.2∧g.2≤set.length)∧(∀p,p<g.1→¬pzP x set[p]!)∧∀p,g.2≤p→p<set.length→pzP x set[p]!) (fun g=>[(1,.func (.func 328) #[] #[aq bs,aq bx]),(5,ac (g.1:Int)),(6,ac (g.2:Int))]) (fun _=>obj bs ft [ae sad set.length sc]::obj bx tLot (ay x)::L) (fun g=>g.2 - g.1) (0,set.length) ⟨⟨az _,aI _⟩,fun p hp=>absurd hp (dU p),fun p h1 h2=>absurd h2 (by dsimp only at h1;omega)⟩ an (Ent.refl _) ?_;rintro⟨i,j⟩ ⟨⟨h1,h2⟩,h3,h4⟩;dsimp only at h1 h2 h3 h4 ⊢;by_cases a3:i<j
 case neg =>
  have a0:i=j:=ab;subst a0;refine IF ?_;intros;exact KX.en ⟨i,rfl,⟨h2,h3,fun q=>h4 i (aI _) q⟩,rfl⟩
 refine IF ?_;intros;refine GO.ev (Ev.shr rfl rfl ag) ag ?_
 have e2:((i:Int)+(j:Int)).fdiv (2 ^ min ((1:Int).toNat) IntKind.u64.bits)=(((i+j) / 2:Nat):Int):=by
  rw[Int.fdiv_eq_ediv_of_nonneg _ ag];simp[IntKind.bits]
 rw[e2];obtain⟨h,hh⟩:∃h,(i+j) / 2=h:=⟨_,rfl⟩;rw[hh];refine IF ?_;intros;refine GO.ef (Ef.d8 rfl rfl (CE bs bx sad sc set x hx hs.ok a2 h ab)) ag ?_;rintro _ _⟨rfl,rfl⟩;by_cases hc:pzP x set[h]!
 ·rw[aZ hc];refine IF ?_;intros;exact⟨(i,h),⟨⟨ab,ab⟩,h3,fun p hp a1=>wm hs hp a1 hc⟩,by dsimp only;omega,an,Ent.refl _⟩
 ·rw[aM hc];refine IF ?_;intros;refine⟨(h+1,j),⟨⟨ab,ab⟩,fun p hp q=>?_,h4⟩,by dsimp only;omega,?_,Ent.refl _⟩
  ·dsimp only at hp;exact hc (wm hs (ab:p≤h) ab q)
  ·rw[show(((h+1,j):Nat×Nat).1:Int)=(h:Int)+1 by simp];exact an
end
section
open Go.V
attribute [local irreducible] G GO GP GPW GPK Ev Ef EfR Ent CB GB V.Enters
def fx(k:Int)(m:MvM):Prop :=
 if k=0 then m.frm=0∧m.parts.length=0 else if k=1∨k=6 then m.to=0∧m.parts.length=0 else if k=2∨k=3∨k=8 then m.frm≠0∧m.to≠0∧m.parts.length=0
 else if k=5 then m.frm=0∧fI m.parts m.n else if k=7 then m.frm≠0∧fI m.parts m.n else if k=9 then m.to≠0∧fI m.parts m.n else m.parts.length=0
instance (k:Int)(m:MvM):Decidable (fx k m):=by unfold fx;infer_instance
def fU{p q:Prop}[Decidable p][Decidable q](h:p↔q):dB p=dB q:=by
 by_cases c:p
 ·rw[aZ c,aZ (h.1 c)]
 ·rw[aM c,aM (fun x=>c (h.2 x))]
abbrev zF:=ar5 []
def PM{φ ψ:Prop}(k:ψ)(h:Hid ψ→φ:=by intro k;(repeat (first|refine aa ?_|intro zzz|refine G.dr 85 1 zF ?_));(repeat revert zzz);exact Hid.out k):φ:=h ⟨k⟩
def DA{L:LH}(k:Int)(m:MvV)[hr:Rds L m.pad Lot ay 3 m.m.parts](hm:m.m.parts.length≤9223372036854775807):Tri ai 148 #[ac k,aN (aT m)] L (rtQ (.bool (dB (fx k m.m))) L):=by
 obtain⟨⟨frm,to,item,mn,parts⟩,pad,pcap⟩:=m;dsimp only at hr hm ⊢;refine Tri.bd (args:=[ac k,aN (aT ⟨⟨frm,to,item,mn,parts⟩,pad,pcap⟩)]) ?_;simp only[aT];have a0:((parts.length:Int)=0)↔parts.length=0:=ab;by_cases k0:k=0
 ·subst k0;have e:fx 0 ⟨frm,to,item,mn,parts⟩↔frm=0∧parts.length=0:=Iff.rfl;by_cases c1:frm=0
  ·refine PM ?_;intros;exact KX.d7 av ah ⟨by rw[fU (e.trans ⟨fun q=>q.2,fun q=>⟨c1,q⟩⟩),←fU a0];rfl,rfl⟩
  ·skip;refine PM ?_;intros;exact KX.d7 av ah ⟨by rw[aM (show ¬fx _ ⟨frm,to,item,mn,parts⟩ from fun q=>c1 (e.1 q).1)];rfl,rfl⟩
 by_cases k1:k=1
 ·subst k1;have e:fx 1 ⟨frm,to,item,mn,parts⟩↔to=0∧parts.length=0:=Iff.rfl;by_cases c1:to=0
  ·refine PM ?_;intros;exact KX.d7 av ah ⟨by rw[fU (e.trans ⟨fun q=>q.2,fun q=>⟨c1,q⟩⟩),←fU a0];rfl,rfl⟩
  ·skip;refine PM ?_;intros;exact KX.d7 av ah ⟨by rw[aM (show ¬fx _ ⟨frm,to,item,mn,parts⟩ from fun q=>c1 (e.1 q).1)];rfl,rfl⟩
 by_cases k6:k=6
 ·subst k6;have e:fx 6 ⟨frm,to,item,mn,parts⟩↔to=0∧parts.length=0:=Iff.rfl;by_cases c1:to=0
  ·refine PM ?_;intros;exact KX.d7 av ah ⟨by rw[fU (e.trans ⟨fun q=>q.2,fun q=>⟨c1,q⟩⟩),←fU a0];rfl,rfl⟩
  ·skip;refine PM ?_;intros;exact KX.d7 av ah ⟨by rw[aM (show ¬fx _ ⟨frm,to,item,mn,parts⟩ from fun q=>c1 (e.1 q).1)];rfl,rfl⟩
 by_cases k2:k=2
 ·subst k2;have e:fx 2 ⟨frm,to,item,mn,parts⟩↔frm≠0∧to≠0∧parts.length=0:=Iff.rfl;by_cases c1:frm=0
  ·skip;refine PM ?_;intros;exact KX.d7 av ah ⟨by rw[aM (show ¬fx _ ⟨frm,to,item,mn,parts⟩ from fun q=>(e.1 q).1 c1)];rfl,rfl⟩
  by_cases c2:to=0
  ·skip;refine PM ?_;intros;exact KX.d7 av ah ⟨by rw[aM (show ¬fx _ ⟨frm,to,item,mn,parts⟩ from fun q=>(e.1 q).2.1 c2)];rfl,rfl⟩
  refine PM ?_;intros;exact KX.d7 av ah ⟨by rw[fU (e.trans ⟨fun q=>q.2.2,fun q=>⟨c1,c2,q⟩⟩),←fU a0];rfl,rfl⟩
 by_cases k3:k=3
 ·subst k3;have e:fx 3 ⟨frm,to,item,mn,parts⟩↔frm≠0∧to≠0∧parts.length=0:=Iff.rfl;by_cases c1:frm=0
  ·skip;refine PM ?_;intros;exact KX.d7 av ah ⟨by rw[aM (show ¬fx _ ⟨frm,to,item,mn,parts⟩ from fun q=>(e.1 q).1 c1)];rfl,rfl⟩
  by_cases c2:to=0
  ·skip;refine PM ?_;intros;exact KX.d7 av ah ⟨by rw[aM (show ¬fx _ ⟨frm,to,item,mn,parts⟩ from fun q=>(e.1 q).2.1 c2)];rfl,rfl⟩
  refine PM ?_;intros;exact KX.d7 av ah ⟨by rw[fU (e.trans ⟨fun q=>q.2.2,fun q=>⟨c1,c2,q⟩⟩),←fU a0];rfl,rfl⟩
 by_cases k8:k=8
 ·subst k8;have e:fx 8 ⟨frm,to,item,mn,parts⟩↔frm≠0∧to≠0∧parts.length=0:=Iff.rfl;by_cases c1:frm=0
  ·skip;refine PM ?_;intros;exact KX.d7 av ah ⟨by rw[aM (show ¬fx _ ⟨frm,to,item,mn,parts⟩ from fun q=>(e.1 q).1 c1)];rfl,rfl⟩
  by_cases c2:to=0
  ·skip;refine PM ?_;intros;exact KX.d7 av ah ⟨by rw[aM (show ¬fx _ ⟨frm,to,item,mn,parts⟩ from fun q=>(e.1 q).2.1 c2)];rfl,rfl⟩
  refine PM ?_;intros;exact KX.d7 av ah ⟨by rw[fU (e.trans ⟨fun q=>q.2.2,fun q=>⟨c1,c2,q⟩⟩),←fU a0];rfl,rfl⟩
 by_cases k5:k=5
 ·subst k5;have e:fx 5 ⟨frm,to,item,mn,parts⟩↔frm=0∧fI parts mn:=Iff.rfl;by_cases c1:frm=0
  ·skip;refine PM ?_;intros;refine GO.cr (kH pad parts.length pcap parts mn rfl hm) ?_;refine PM ?_;intros;exact KX.d7 av ah ⟨by rw[fU (e.trans ⟨fun q=>q.2,fun q=>⟨c1,q⟩⟩)];rfl,rfl⟩
  ·skip;refine PM ?_;intros;exact KX.d7 av ah ⟨by rw[aM (show ¬fx _ ⟨frm,to,item,mn,parts⟩ from fun q=>c1 (e.1 q).1)];rfl,rfl⟩
 by_cases k7:k=7
 ·subst k7;have e:fx 7 ⟨frm,to,item,mn,parts⟩↔frm≠0∧fI parts mn:=Iff.rfl;by_cases c1:frm=0
  ·skip;refine PM ?_;intros;exact KX.d7 av ah ⟨by rw[aM (show ¬fx _ ⟨frm,to,item,mn,parts⟩ from fun q=>(e.1 q).1 c1)];rfl,rfl⟩
  ·skip;refine PM ?_;intros;refine GO.cr (kH pad parts.length pcap parts mn rfl hm) ?_;refine PM ?_;intros;exact KX.d7 av ah ⟨by rw[fU (e.trans ⟨fun q=>q.2,fun q=>⟨c1,q⟩⟩)];rfl,rfl⟩
 by_cases k9:k=9
 ·subst k9;have e:fx 9 ⟨frm,to,item,mn,parts⟩↔to≠0∧fI parts mn:=Iff.rfl;by_cases c1:to=0
  ·skip;refine PM ?_;intros;exact KX.d7 av ah ⟨by rw[aM (show ¬fx _ ⟨frm,to,item,mn,parts⟩ from fun q=>(e.1 q).1 c1)];rfl,rfl⟩
  ·skip;refine PM ?_;intros;refine GO.cr (kH pad parts.length pcap parts mn rfl hm) ?_;refine PM ?_;intros;exact KX.d7 av ah ⟨by rw[fU (e.trans ⟨fun q=>q.2,fun q=>⟨c1,q⟩⟩)];rfl,rfl⟩
 have e:fx k ⟨frm,to,item,mn,parts⟩↔parts.length=0:=by
  unfold fx;rw[if_neg k0,if_neg ab,if_neg ab,if_neg k5,if_neg k7,if_neg k9]
 refine PM ?_;intros;exact KX.d7 av ah ⟨by rw[fU e,←fU a0];rfl,rfl⟩
end
end Go.Proofs.YtommnllbflbdmaaGreatDoor
namespace Go.V
section gf
variable {P:Program}{N:Nat}{ops:Array Oper}{done done' : List Nat}{n:Nat}{pend:List PE}{env env' : Env}{L L' : LH}{K:Post}
def GF.conseq(hd:(dN ops.size done == dN ops.size done')=true)(he:EnvSub env env')(hL:Ent L L')(h:GF P N ops done' n pend env' L' K):GF P N ops done n pend env L K:=by
 have e:=eq_of_beq hd;intro hK hs a0 θ Y a w S i a1 a2;rw[e] at a0 ⊢;exact h hK hs a0 θ Y a w S (i.less he hL) a1 a2
def GF.ent(hL:Ent L L')(h:GF P N ops done n pend env L' K):GF P N ops done n pend env L K:=fun hK hs a0 θ Y a w S i a1 a2=>h hK hs a0 θ Y a w S (i.less (EnvSub.refl _) hL) a1 a2
def GF.d8(js:List Nat)(hr:(Region.ready .any ops (dN ops.size done) == js)=true)(a1:(js == [])=false)(h:∀j∈js,GE P N ops done j n pend env L K):GF P N ops done (n+1) pend env L K:=by
 intro hK hs a3 θ Y a w S i0 a4 a5;have a2:=eq_of_beq hr;refine⟨fun h0=>?_,fun k hk=>?_⟩
 ·rw[a2] at h0;rw[h0] at a1;cases a1
 ·have a0:=hk;rw[a2] at a0;exact h k a0 hK hs a3 hk θ Y a w S i0 a4 a5
def GF.d9(i j k:Nat)(hr:(Region.ready .any ops (dN ops.size done) == [i,j,k])=true)(h1:GE P N ops done i n pend env L K)(h2:GE P N ops done j n pend env L K)(h3:GE P N ops done k n pend env L K):GF P N ops done (n+1) pend env L K :=
 GF.d8 [i,j,k] hr rfl (fun x hx=>by
  rcases List.mem_cons.1 hx with rfl|hx
  ·exact h1
  ·rcases List.mem_cons.1 hx with rfl|hx
   ·exact h2
   ·obtain rfl:=List.mem_singleton.1 hx;exact h3)
def GF.evS{env₀:Env}{i d:Nat}{op:Op}{ty:TypeId}{pos:String}{af:Array Edge}{v:Value}(hs:EnvSub env env₀)(hi:ops[i]? = some ⟨some d,op,ty,pos,af,none⟩)
  (hr:((Region.ready .any ops (dN ops.size done)).contains i && Region.free .any ops (dN ops.size done) i)=true) (he:Ev P L env₀ op ty v) (hd:d<N) (h:GF P N ops (i::done) n (⟨i,op,ty,env₀,v⟩::pend) ((d,v)::env) L K):GF P N ops done (n+1) pend env L K:=by
 refine GF.e7 hi hd hr (fun θ R a w ea s=>⟨fun w'=>(execOp a.eval ⟨some d,op,ty,pos,af,none⟩).run P w' = .ok (.value v) w',.inl ⟨rfl,fun w' h=>h⟩,he θ R a.eval w _ (ea.less hs).agr s rfl rfl,fun S hS p hp=>?_⟩) h;rcases List.mem_cons.1 hp with rfl|hp
 ·exact .inr ⟨_,au,rfl,a.eval,_,(ea.less hs).agr,rfl,rfl,fun w h=>h⟩
 ·rcases hS p hp with h|⟨pe,h1,h2⟩
  ·exact .inl h
  ·exact .inr ⟨pe,aw _ h1,h2⟩
def GF.fam{ι:Type}(D:ι→List Nat)(m:ι→Nat)(pe:ι→List PE)(en:ι→Env)(LL:ι→LH)(a0:ι→Nat)(step:∀i,(∀j,a0 j<a0 i→GF P N ops (D j) (m j) (pe j) (en j) (LL j) K)→GF P N ops (D i) (m i) (pe i) (en i) (LL i) K):∀i,GF P N ops (D i) (m i) (pe i) (en i) (LL i) K:=by
 have h:∀r i,a0 i<r→GF P N ops (D i) (m i) (pe i) (en i) (LL i) K:=by
  intro r;induction r with
  | zero=>intro i hi;omega
  | succ r ih =>
   intro i hi;exact step i (fun j hj=>ih j ab)
 exact fun i=>h (a0 i+1) i ab
end gf
end Go.V
namespace Go.Proofs.YtommnllbflbdmaaGreatDoor
section
open Go.V
attribute [local irreducible] G GO GP GPW GPK Ev Ef EfR Ent CB GB V.Enters
def pb{L:LH}(t:Int):Tri ai 235 #[ac t] L (rtQ (.bool (dB (ie t))) L):=by
 refine Tri.bd ?_;by_cases h1:1≤t
 ·refine IF ?_;intros;exact KX.d7 av (Ent.refl _) ⟨by rw[fU (show ie t↔t≤1048576 from⟨fun q=>q.2,fun q=>⟨h1,q⟩⟩)];rfl,rfl⟩
 ·refine IF ?_;intros;exact KX.d7 av (Ent.refl _) ⟨by rw[aM (show ¬ie t from fun q=>h1 q.1)];rfl,rfl⟩
instance (s:StM):Decidable (iF s):=by unfold iF;infer_instance
def qI{L:LH}(s:StV)[hr:Rds L s.mad MvV aT 5 s.moves](hn:∀m∈s.moves,0≤m.m.n)(hl:s.moves.length≤1000000) :
  Tri ai 150 #[aN (aX s)] L (rtQ (.bool (dB (iF s.m))) L):=by
 have a0:s.m.moves.length=s.moves.length:=by show(s.moves.map MvV.m).length=_;rw[aA]
 refine Tri.bd ?_;simp only[aX];by_cases c1:s.rule = -1
 case neg =>
  rw[aM (show ¬iF s.m from fun q=>c1 q.1)];refine IF ?_;intros;exact KX.en ⟨rfl,rfl⟩
 refine IF ?_;intros;refine GO.cr (pb s.times) ?_;by_cases c2:ie s.times
 case neg =>
  rw[aM c2,aM (show ¬iF s.m from fun q=>c2 q.2.1)];refine IF ?_;intros;exact KX.en ⟨rfl,rfl⟩
 rw[aZ c2];by_cases c3:s.moves.length=2
 case neg =>
  rw[aM (show ¬iF s.m from fun q=>c3 (a0.symm.trans q.2.2.1))];refine IF ?_;intros;exact KX.en ⟨rfl,rfl⟩
 have e0:s.m.moves[0]! = s.moves[0]!.m:=eD _ (ab:0<s.moves.length);have e1:s.m.moves[1]! = s.moves[1]!.m:=eD _ (ab:1<s.moves.length);have n0:=hn _ (aL (ab:0<s.moves.length));have n1:=hn _ (aL (ab:1<s.moves.length))
 have e:iF s.m↔s.moves[0]!.m.to=0∧s.moves[1]!.m.frm=0∧s.moves[1]!.m.to=s.moves[0]!.m.frm∧s.moves[0]!.m.n % s.times=0∧s.moves[1]!.m.n % s.times=0:=by
  unfold iF;rw[e0,e1];exact⟨fun q=>q.2.2.2,fun q=>⟨c1,c2,a0.trans c3,q⟩⟩
 unfold ie at c2;have t0:(0:Int).toNat=0:=rfl;have t1:(1:Int).toNat=1:=rfl;have i0:(0:Int).toNat<s.moves.length:=ab;have i1:(1:Int).toNat<s.moves.length:=ab;rw[←t0] at e n0;rw[←t1] at e n1;rw[fU e];clear e0 e1 e;repeat first|refine G.sn 3 ?_|refine bF ?_|intro
 rename_i b1;refine G.d8 (α:=Nat×Nat) (fun _=>True) (fun g=>[(1,aq b1),(3,.pointer (some ⟨g.1,0,none⟩)),(4,.pointer (some ⟨g.2,0,none⟩))]) (fun g=>obj g.1 tMv (aT s.moves[(0:Int).toNat]!)::obj g.2 tMv (aT s.moves[(1:Int).toNat]!)::obj b1 cQ [ac s.id,ac s.kind,ac s.actor,ac s.tick,ac s.rule,ac s.times,ae s.mad s.moves.length s.mcap]::L) ?_ ?_
 ·refine G.f8 mixed krStd0 ?_;refine GF.evP (i:=0) rfl krStd0 (Ev.fieldAddr rfl) ag ?_;refine GF.evL (i:=1) rfl krStd0 (Ev.d9 rfl rfl) ag ?_;refine GF.evL (i:=2) rfl krStd0 (Ev.indexAddr rfl rfl ab ab ab) ag ?_;refine GF.evL (i:=3) rfl krStd0 (Ev.e8 rfl ab) ag ?_;refine GF.evP (i:=4) rfl krStd0 (Ev.fieldAddr rfl) ag ?_;refine GF.evL (i:=5) rfl krStd0 (Ev.d9 rfl rfl) ag ?_;refine GF.evL (i:=6) rfl krStd0 (Ev.indexAddr rfl rfl ab ab ab) ag ?_;refine GF.evL (i:=7) rfl krStd0 (Ev.e8 rfl ab) ag ?_;refine GF.d7 8 9 krStd0 ?_ ?_
  ·refine GE.ef rfl Ef.alloc ag ?_;rintro _ _⟨b3,rfl,rfl⟩;refine⟨(by intro pe hp;simp only[bh,aH,or_false] at hp;rcases hp with rfl|rfl|rfl|rfl|rfl|rfl<;>first|exact Ev.d9 rfl rfl|exact Ev.indexAddr rfl rfl ab ab ab|exact Ev.e8 rfl ab),?_⟩;refine GF.plan [.ef 9,.ef 10,.ef 11] krStd0 rfl ?_;refine IF ?_;intros;exact⟨(b3,_),trivial,an,by exact ah⟩
  ·refine GE.ef rfl Ef.alloc ag ?_;rintro _ _⟨b4,rfl,rfl⟩;refine⟨(by intro pe hp;simp only[bh,aH,or_false] at hp;rcases hp with rfl|rfl|rfl|rfl|rfl|rfl<;>first|exact Ev.d9 rfl rfl|exact Ev.indexAddr rfl rfl ab ab ab|exact Ev.e8 rfl ab),?_⟩;refine GF.plan [.ef 8,.ef 10,.ef 11] krStd0 rfl ?_;refine IF ?_;intros;exact⟨(_,b4),trivial,an,by exact ah⟩
 rintro⟨b3,b4⟩ _;generalize s.moves[(0:Int).toNat]! = m0 at *;generalize s.moves[(1:Int).toNat]! = m1 at *;simp only[aT];by_cases d1:m0.m.to=0
 case neg =>
  refine IF ?_;intros;exact KX.d7 av ah ⟨by rw[aM (fun h=>d1 h.1)];rfl,rfl⟩
 by_cases d2:m1.m.frm=0
 case neg =>
  refine IF ?_;intros;exact KX.d7 av ah ⟨by rw[aM (fun h=>d2 h.2.1)];rfl,rfl⟩
 by_cases d3:m1.m.to=m0.m.frm
 case neg =>
  refine IF ?_;intros;exact KX.d7 av ah ⟨by rw[aM (fun h=>d3 h.2.2.1)];rfl,rfl⟩
 by_cases d4:m0.m.n % s.times=0
 case neg =>
  refine IF ?_;intros;exact KX.d7 av ah ⟨by rw[aM (fun h=>d4 h.2.2.2.1)];rfl,rfl⟩
 refine IF ?_;intros;refine KX.d7 av ah ⟨?_,rfl⟩;by_cases d5:m1.m.n % s.times=0
 ·rw[aZ d5,aZ ⟨d1,d2,d3,d4,d5⟩];rfl
 ·rw[aM d5,aM (fun h=>d5 h.2.2.2.2)];rfl
def mtP(pa po:MvM→Int)(times:Int)(ms:List MvV)(am:List (Int×Int)):Prop:=∀i:Nat,i<ms.length→po ms[i]!.m=0∧pa ms[i]!.m=pa ms[0]!.m∧ms[i]!.m.item=am[i]!.1∧ms[i]!.m.n=am[i]!.2*times
noncomputable instance (pa po t ms am):Decidable (mtP pa po t ms am):=Classical.propDecidable _
def AskM(f:FuncId)(p:MvM→Int):Prop:=∀(m:MvV) (L:LH),Tri ai f #[aN (aT m)] L (rtQ (ac (p m.m)) L)
def Fq:AskM 237 (fun m=>m.frm):=by
 intro m L;refine Tri.bd (args:=[aN (aT m)]) ?_;refine IF ?_;intros;exact KX.en ⟨rfl,rfl⟩
def GQ:AskM 238 (fun m=>m.to):=by
 intro m L;refine Tri.bd (args:=[aN (aT m)]) ?_;refine IF ?_;intros;exact KX.en ⟨rfl,rfl⟩
abbrev zD:List Stp:=[.ev 0,.ev 1,.ef 2,.ev 3,.ev 4,.ev 5,.ev 6,.ev 8,.ev 9,.ev 10,.ev 11,.ef 7,.ef 12,.ev 13,.ev 14,.ev 15,.ev 16,.ev 17,.ev 18,.ev 19,.ev 20,.ev 21,.ev 22,.ev 23,.ev 24,.ev 25,.ev 26,.ev 27,.ev 28,.ev 29,.ev 30,.ev 31,.ev 32,.ev 33,.ev 34,.ev 35,.ev 36,.ev 37]
def Ql{φ ψ:Prop}(k:ψ)(h:Hid ψ→φ:=by intro k;(repeat (first|refine aa ?_|intro zzz|refine G.dr 58 4 zD ?_));(repeat revert zzz);exact Hid.out k):φ:=h ⟨k⟩
def pE{L:LH}(b:Nat)(s:StV)(ht:ie s.times)(fa fo:FuncId)(pa po:MvM→Int)(ha:AskM fa pa)(ho:AskM fo po)(ad:OA)(n c:Nat)(ms:List MvV)[hr:Rds L ad MvV aT 5 ms](a2:OA)(n2 c2:Nat)(am:List (Int×Int))[b6:Rds L a2 (Int×Int) aV 2 am](hn:n=ms.length)(b3:n2=am.length)(hl:ms.length=am.length)(b5:am.length≤64)(hb:AmB am) :
  Tri ai 236 #[ae ad n c,ae a2 n2 c2,.func (.func fa) #[] #[],.func (.func fo) #[] #[],aq b] (obj b cQ (aX s)::L) (rtQ (.bool (dB (mtP pa po s.times ms am))) (obj b cQ (aX s)::L)):=by
 subst hn b3;obtain⟨b4,a5⟩:=ht;refine Tri.bd ?_;refine Ql ?_;intros;refine G.loop (α:=Nat) (fun i=>i≤ms.length∧∀j:Nat,j<i→po ms[j]!.m=0∧pa ms[j]!.m=pa ms[0]!.m∧ms[j]!.m.item=am[j]!.1∧ms[j]!.m.n=am[j]!.2*s.times) (fun i=>[(0,ae ad ms.length c),(1,ae a2 am.length c2),(2,.func (.func fa) #[] #[]),(3,.func (.func fo) #[] #[]),(4,aq b),(12,ae ad ms.length c),(13,ac ms.length),(14,ac (i:Int))]) (fun _=>obj b cQ (aX s)::L) (fun i=>ms.length - i) 0 ⟨az _,fun j h=>absurd h (dU j)⟩ an (Ent.refl _) ?_;rintro i ⟨hi,a1⟩;by_cases a8:i<ms.length
 case neg =>
  refine Ql ?_;intros;exact KX.d7 av ah ⟨by rw[aZ (show mtP pa po s.times ms am from fun j hj=>a1 j ab)];rfl,rfl⟩
 have a3:(i:Int).toNat=i:=aD i;have a0:∀{p:Prop},¬p→(po ms[i]!.m=0∧pa ms[i]!.m=pa ms[0]!.m∧ms[i]!.m.item=am[i]!.1∧ms[i]!.m.n=am[i]!.2*s.times→p)→dB (mtP pa po s.times ms am)=false:=fun h q=>aM (fun r=>h (q (r i a8)));obtain⟨a6,a7⟩:=hb _ (aL (ab:i<am.length));have a4:0≤am[i]!.2*s.times∧am[i]!.2*s.times≤1099511627776*1048576:=⟨ed a6 ab,Int.mul_le_mul a7 a5 ab ab⟩;have t0:ms[0]! = ms[(0:Int).toNat]!:=rfl;rw[t0] at a0;rw[←a3] at a4 a0;obtain⟨b1,b2⟩:=a4;have a9 : (i:Int).toNat<ms.length:=ab;have b0:(i:Int).toNat<am.length:=ab;refine Ql ?_;intros;refine GPW.ef (Ef.d8 rfl rfl (ho ms[(i:Int).toNat]! _)) ag ?_;rintro _ _⟨rfl,rfl⟩;by_cases c1:po ms[(i:Int).toNat]!.m=0
 case neg =>
  refine Ql ?_;intros;exact KX.d7 av ah ⟨by rw[a0 c1 (fun q=>q.1)];rfl,rfl⟩
 refine Ql ?_;intros;refine GPW.ef (Ef.d8 rfl rfl (ha ms[(i:Int).toNat]! _)) ag ?_;rintro _ _⟨rfl,rfl⟩;refine Ql ?_;intros;refine GPW.ef (Ef.d8 rfl rfl (ha ms[(0:Int).toNat]! _)) ag ?_;rintro _ _⟨rfl,rfl⟩;by_cases c2:pa ms[(i:Int).toNat]!.m=pa ms[(0:Int).toNat]!.m
 case neg =>
  refine Ql ?_;intros;exact KX.d7 av ah ⟨by rw[a0 c2 (fun q=>q.2.1)];rfl,rfl⟩
 by_cases c3:ms[(i:Int).toNat]!.m.item=am[(i:Int).toNat]!.1
 case neg =>
  refine Ql ?_;intros;exact KX.d7 av ah ⟨by rw[a0 c3 (fun q=>q.2.2.1)];rfl,rfl⟩
 by_cases c4:ms[(i:Int).toNat]!.m.n=am[(i:Int).toNat]!.2*s.times
 case neg =>
  refine Ql ?_;intros;exact KX.d7 av ah ⟨by rw[a0 c4 (fun q=>q.2.2.2)];rfl,rfl⟩
 refine Ql ?_;intros;refine⟨i+1,⟨ab,fun j hj=>?_⟩,ab,?_,by exact ah⟩
 ·rcases dl j i with h|h
  ·exact a1 j h
  ·obtain rfl:j=i:=ab;rw[t0];rw[a3] at c1 c2 c3 c4;exact⟨c1,c2,c3,c4⟩
 ·rw[aU i];exact an
abbrev wJ:=ar6 [.ev 10,.ef 11,.ev 12,.ev 13,.ev 14,.ev 15,.ev 16,.ev 17,.ev 18,.ev 19,.ev 20,.ev 21,.ev 22,.ef 23,.ev 24,.ev 25]
def cJ{φ ψ:Prop}(k:ψ)(h:Hid ψ→φ:=by intro k;(with_reducible apply G.d7);first|refine G.dr 97 17 wJ (Hid.out k)):φ:=h ⟨k⟩
def Qv{φ ψ:Prop}(k:ψ)(h:Hid ψ→φ:=by intro k;(repeat (first|refine aa ?_|intro zzz|refine cJ ?_));(repeat revert zzz);exact Hid.out k):φ:=h ⟨k⟩
def vm{L R:LH}{b:Nat}{sh:Int}{x:BkX}[hp:PickObj L b tBk (bP sh x) R](s:StV)[b5:Rds L s.mad MvV aT 5 s.moves](hc:x.cat.m.Ok)(hB:x.cat.B)(c8:s.moves.length≤64)(a4:s.moves.length≤s.mcap)(hI:I64 s.rule) :
  Tri ai 149 #[aq b,aN (aX s)] (catP x.cat::L) (rtQ (.bool (dB (gS x.cat.m.rules s.rule s.times (s.moves.map MvV.m)))) (catP x.cat::L)):=by
 obtain⟨c6,c7⟩:=hI;have c9:=hB.rules;have c0:x.cat.m.rules.length=x.cat.rules.length:=by simp[CatV.m]
 refine Tri.bd ?_;repeat first|refine G.sm 2 ?_|refine bF ?_|intro _|refine cJ ?_
 rename_i b3;refine G.d8 (α:=Unit) (fun _=>True) (fun _=>[(0,aq b),(3,aq b3),(5,ac (cq s.rule))]) (fun _=>obj b3 cQ (aX s)::catP x.cat::L) ?_ ?_
 ·by_cases hf:s.rule < -1
  ·refine Qv ?_;intros;refine⟨(),trivial,?_,by exact ah⟩;unfold cq;rw[if_pos hf];exact an
  ·refine Qv ?_;intros;refine⟨(),trivial,?_,by exact ah⟩;unfold cq;rw[if_neg hf];exact an
 rintro _ _;by_cases h1:0≤cq s.rule
 case neg =>
  refine Qv ?_;intros;exact KX.d7 av ah ⟨by rw[aM (fun h=>h1 h.1.1)];rfl,rfl⟩
 by_cases h2:cq s.rule<x.cat.rules.length
 case neg =>
  refine Qv ?_;intros;exact KX.d7 av ah ⟨by rw[aM (fun h=>h2 (by have:=h.1.2;omega))];rfl,rfl⟩
 refine Qv ?_;intros;refine GO.cr (pb s.times) ?_;by_cases h3:ie s.times
 case neg =>
  rw[aM h3];refine Qv ?_;intros;exact KX.d7 av ah ⟨by rw[aM (fun h=>h3 h.2.1)];rfl,rfl⟩
 rw[aZ h3];have a5:(cq s.rule).toNat<x.cat.rules.length:=ab;have a0:x.cat.rules[(cq s.rule).toNat]!∈x.cat.rules:=aL a5;have a2 : x.cat.m.rules[(cq s.rule).toNat]! = x.cat.rules[(cq s.rule).toNat]!.m:=eD RuV.m a5;have a3:x.cat.rules[(cq s.rule).toNat]!.m∈x.cat.m.rules:=alStd0List_mem_map_of_mem a0;refine GO.ent (Ent.at (A:=catP x.cat) rK) ?_;refine GO.ent (Ent.at (A:=allP ruP x.cat.rules) ((Ent.d9 (f:=ruP) a0).trans pz)) ?_;have c4:=hB.ru _ a0;have a9:=hc.take _ a3;have a8:=hc.give _ a3;have a7:=hc.back _ a3
 have a1:gS x.cat.m.rules s.rule s.times (s.moves.map MvV.m)↔(x.cat.rules[(cq s.rule).toNat]!.spawn=false∧¬(s.rule < -1∧x.cat.rules[(cq s.rule).toNat]!.chance ≥ x.cat.rules[(cq s.rule).toNat]!.of_)∧s.moves.length=x.cat.rules[(cq s.rule).toNat]!.take.l.length+(x.cat.rules[(cq s.rule).toNat]!.given s.rule).l.length ∧
   (∀i:Nat,i<x.cat.rules[(cq s.rule).toNat]!.take.l.length→mJ (s.moves.map MvV.m) s.times x.cat.rules[(cq s.rule).toNat]!.take.l[i]! (s.moves.map MvV.m)[i]!) ∧
   (∀i:Nat,i<(x.cat.rules[(cq s.rule).toNat]!.given s.rule).l.length→mV ((s.moves.map MvV.m)[x.cat.rules[(cq s.rule).toNat]!.take.l.length]!).to s.times (x.cat.rules[(cq s.rule).toNat]!.given s.rule).l[i]! (s.moves.map MvV.m)[x.cat.rules[(cq s.rule).toNat]!.take.l.length+i]!)):=by
  unfold gS;rw[a2,xu,aA];exact⟨fun h=>h.2.2,fun h=>⟨⟨h1,ab⟩,h3,h⟩⟩
 obtain⟨c1,c2,c3⟩:=c4;simp only[AmB,RuV.m] at a9 a8 a7;have b9:(x.cat.rules[(cq s.rule).toNat]!.given s.rule).l.length≤64:=by unfold RuV.given;split<;>assumption
 have b8:∀a∈(x.cat.rules[(cq s.rule).toNat]!.given s.rule).l,0≤a.2∧a.2≤1099511627776:=by unfold RuV.given;split<;>assumption
 refine GO.ent (L':=amS (x.cat.rules[(cq s.rule).toNat]!.given s.rule)::amS x.cat.rules[(cq s.rule).toNat]!.take::isl bj 9 x.cat.rad x.cat.rules::catP x.cat::obj b3 cQ (aX s)::L) ?_ ?_
 ·unfold RuV.given;split
  ·exact ah
  ·exact ah
 repeat first|refine G.sm 8 ?_|refine bF ?_|intro _|refine cJ ?_
 rename_i b6;have b0:∀h:s.rule < -1,x.cat.rules[(cq s.rule).toNat]!.given s.rule=x.cat.rules[(cq s.rule).toNat]!.back:=fun h=>if_pos h;have b1:∀h:¬s.rule < -1,x.cat.rules[(cq s.rule).toNat]!.given s.rule=x.cat.rules[(cq s.rule).toNat]!.give:=fun h=>if_neg h;clear a2 a0 a3 a8 a7 c2 c3 a5;generalize x.cat.rules[(cq s.rule).toNat]! = r at *;generalize r.given s.rule=gv at *;by_cases h5:s.rule < -1∧r.chance ≥ r.of_
 case pos =>
  obtain⟨b7,a6⟩:=h5;refine Qv ?_;intros;exact KX.d7 av ah ⟨by rw[aM (fun h=>(a1.1 h).2.1 ⟨b7,a6⟩)];rfl,rfl⟩
 refine G.d8 (α:=Unit) (fun _=>True) (fun _=>[(0,aq b),(3,aq b3),(6,aq b6),(7,ae gv.ad gv.l.length gv.cap)]) (fun _=>obj b6 tRu (bj r)::obj b3 cQ (aX s)::amS gv::amS r.take::catP x.cat::L) ?_ ?_
 ·by_cases hf:s.rule < -1
  ·have a6:¬r.chance ≥ r.of_:=fun h=>h5 ⟨hf,h⟩;rw[b0 hf];refine Qv ?_;intros;exact⟨(),trivial,an,by exact ah⟩
  ·rw[b1 hf];refine Qv ?_;intros;exact⟨(),trivial,an,by exact ah⟩
 rintro _ _;clear b0 b1;cases h4:r.spawn with
 | true =>
  refine Qv ?_;intros;rw[h4];refine Qv ?_;intros;exact KX.d7 av ah ⟨by rw[aM (fun h=>by have:=(a1.1 h).1;rw[h4] at this;cases this)];rfl,rfl⟩
 | false =>
 by_cases h6:s.moves.length=r.take.l.length+gv.l.length
 case neg =>
  refine Qv ?_;intros;rw[h4];refine Qv ?_;intros;exact KX.d7 av ah ⟨by rw[aM (fun h=>h6 (a1.1 h).2.2.1)];rfl,rfl⟩
 have c5:r.take.l.length≤s.moves.length:=ab
 have b2:mtP (fun m=>m.frm) (fun m=>m.to) s.times (s.moves.take r.take.l.length) r.take.l↔∀i:Nat,i<r.take.l.length→mJ (s.moves.map MvV.m) s.times r.take.l[i]! (s.moves.map MvV.m)[i]!:=by
  have e:∀i,i<r.take.l.length→(s.moves.take r.take.l.length)[i]! = s.moves[i]!:=fun i hi=>by rw[getElem!_of (by rw[bg];omega),getElem!_of ab,List.getElem_take]
  unfold mtP mJ;rw[bg,Nat.min_eq_left c5];constructor
  ·intro h i hi;obtain⟨g1,g2,g3,g4⟩:=h i hi;rw[e i hi] at g1 g2 g3 g4;rw[e 0 ab] at g2;rw[jL _ ab,jL _ ab];exact⟨g2,g1,g3,g4⟩
  ·intro h i hi;obtain⟨g1,g2,g3,g4⟩:=h i hi;rw[jL _ ab] at g1 g2 g3 g4;rw[jL _ ab] at g1;rw[e i hi,e 0 ab];exact⟨g2,g1,g3,g4⟩
 have b4:mtP (fun m=>m.to) (fun m=>m.frm) s.times (s.moves.drop r.take.l.length) gv.l↔∀i:Nat,i<gv.l.length→mV ((s.moves.map MvV.m)[r.take.l.length]!).to s.times gv.l[i]! (s.moves.map MvV.m)[r.take.l.length+i]!:=by
  have e:∀i,i<gv.l.length→(s.moves.drop r.take.l.length)[i]! = s.moves[r.take.l.length+i]!:=fun i hi=>by rw[getElem!_of (by rw[dQ];omega),getElem!_of ab,List.getElem_drop]
  unfold mtP mV;rw[dQ,show s.moves.length - r.take.l.length=gv.l.length by omega];constructor
  ·intro h i hi;obtain⟨g1,g2,g3,g4⟩:=h i hi;rw[e i hi] at g1 g2 g3 g4;rw[e 0 ab] at g2;rw[jL _ ab,jL _ ab];exact⟨g1,g2,g3,g4⟩
  ·intro h i hi;obtain⟨g1,g2,g3,g4⟩:=h i hi;rw[jL _ ab] at g1 g2 g3 g4;rw[jL _ ab] at g2;rw[e i hi,e 0 ab];exact⟨g1,g2,g3,g4⟩
 haveI hrt:=Rds.take b5 r.take.l.length
 haveI hrd:=Rds.drop b5 a4 r.take.l.length
 refine Qv ?_;intros;rw[h4];refine Qv ?_;intros;refine GPW.ent (L':=obj b3 cQ (aX s)::obj b6 tRu (bj r)::amS gv::amS r.take::catP x.cat::L) ah ?_;rw[show((Int.toNat (r.take.l.length:Int)))=r.take.l.length from aD _];refine GPW.ef (Ef.d8 rfl rfl (pE (L:=obj b6 tRu (bj r)::amS gv::amS r.take::catP x.cat::L) b3 s h3 237 238 (fun m=>m.frm) (fun m=>m.to) Fq GQ s.mad r.take.l.length s.mcap (s.moves.take r.take.l.length) (hr:=inferInstance) r.take.ad r.take.l.length r.take.cap r.take.l (by rw[bg];omega) rfl (by rw[bg];omega) c1 a9)) ag ?_;rintro _ _⟨rfl,rfl⟩;by_cases q1:mtP (fun m=>m.frm) (fun m=>m.to) s.times (s.moves.take r.take.l.length) r.take.l
 case neg =>
  rw[aM q1];refine Qv ?_;intros;exact KX.d7 av ah ⟨by rw[aM (fun h=>q1 (b2.2 (a1.1 h).2.2.2.1))];rfl,rfl⟩
 rw[aZ q1];refine Qv ?_;intros;rw[show((Int.toNat (r.take.l.length:Int)))=r.take.l.length from aD _];refine GPW.ef (Ef.d8 rfl rfl (pE (L:=obj b6 tRu (bj r)::amS gv::amS r.take::catP x.cat::L) b3 s h3 238 237 (fun m=>m.to) (fun m=>m.frm) GQ Fq (advA s.mad s.mcap 5 r.take.l.length) (s.moves.length - r.take.l.length) (s.mcap - r.take.l.length) (s.moves.drop r.take.l.length) (hr:=inferInstance) gv.ad gv.l.length gv.cap gv.l (by rw[dQ]) rfl (by rw[dQ];omega) b9 b8)) ag ?_;rintro _ _⟨rfl,rfl⟩;refine Qv ?_;intros;refine KX.d7 av ah ⟨?_,rfl⟩;by_cases q2:mtP (fun m=>m.to) (fun m=>m.frm) s.times (s.moves.drop r.take.l.length) gv.l
 ·rw[aZ q2,aZ (a1.2 ⟨h4,h5,h6,b2.1 q1,b4.1 q2⟩)];rfl
 ·rw[aM q2,aM (fun h=>q2 (b4.2 (a1.1 h).2.2.2.2))];rfl
