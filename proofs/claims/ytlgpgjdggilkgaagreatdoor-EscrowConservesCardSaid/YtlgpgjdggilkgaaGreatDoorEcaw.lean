/- Lemmas. -/
import Derived.Test.YtlgpgjdggilkgaaGreatDoorEcav
set_option linter.all false
set_option maxHeartbeats 8000000
namespace Go.V
def uc(ad:OA):Prop:=∃a,ad=some a
def Ev.c7{P:Program}{L:LH}{env:Env}{ty:TypeId}{x:Operand}{ad:OA}{sz j o:Nat}(hx:evE env x=some (.pointer (elP ad sz j o)))(h:uc ad):Ev P L env (.nilCheck x) ty (.pointer (elP ad sz j o)):=by
 obtain⟨g,rfl⟩:=h;exact Ev.nilCheck (a:=Addr.add g (j*sz+o)) hx
def oU{α:Type}{enc:α→LV}{sz E:Nat}{ad:OA}{cap:Nat}{xs:List α}{L R' : LH}[h:PickOsl L ad α enc sz E cap xs R'](h0:0<xs.length):∀θ R w,Sat θ (L++R) w→uc ad:=fun θ R w s=>by
 have s1:Sat θ (osl enc sz E ad cap xs::(R'++R)) w:=s.perm (h.perm.append_right R);obtain⟨_,h1,_,h2⟩:=s1.osl_parts;rcases h2 with⟨_,h3⟩|⟨g,a0,h3,_⟩
 ·omega
 ·exact⟨_,h3⟩
end Go.V
namespace Go.Proofs.YtlgpgjdggilkgaaGreatDoor
section
open Go.V
attribute [local irreducible] G GO GP GPW GPK Ev Ef EfR Ent CB GB V.Enters
abbrev CU:=XF [.ev 17,.ev 18,.ev 19,.ev 20,.ev 21,.ev 22,.ev 23,.ev 24,.ev 25,.ev 26,.ev 27,.ev 28,.ev 29,.ev 30]
abbrev CT:=XD [.ev 10,.ef 11]
def Nv{φ ψ:Prop}(k:ψ)(h:Hid ψ→φ:=by intro k;(repeat (first|refine aa ?_|intro zzz|refine G.dr 59 4 CU ?_|refine G.dr 59 5 CT ?_));(repeat revert zzz);exact Hid.out k):φ:=h ⟨k⟩
def vd{L:LH}(ad:OA)(cap:Nat)(xs:LL)(x:Lot)(hl:xs.length≤100000000)(a7:∀y∈xs,LotW y)(hx:LotW x) :
  Tri Tryz.prog 105 #[ag ad xs.length cap,aU (aG x)] (osl aG 3 tLot ad cap xs::L) (fun v L'=>∃a4 a2,v=ag a4 (bN xs x).length a2∧L' = osl aG 3 tLot a4 a2 (bN xs x)::L):=by
 refine Tri.bd ?_;simp only[aG];by_cases h0:x.2.2=0
 ·have e:bN xs x=xs:=by unfold bN;rw[if_pos h0]
  rw[e];refine Nv ?_;intros;exact KX.en ⟨ad,cap,rfl,rfl⟩
 by_cases h1:xs.length=0
 ·have e:bN xs x=xs++[x]:=by unfold bN;rw[if_neg h0,if_neg (fun h=>h.1 h1)]
  rw[e];refine Nv ?_;intros;refine GO.ef (Ef.a8 (enc:=aG) (e:=x) rfl rfl rfl rfl rfl aQ (eV _) ab ab) ae ?_;rintro _ _⟨a1,a0,rfl,rfl⟩;refine Nv ?_;intros;exact KX.en ⟨a1,a0,rfl,rfl⟩
 have a3:((xs.length:Int) - 1).toNat=xs.length - 1:=ab;have a5:=a7 _ (aV (ab:xs.length - 1<xs.length));rw[←a3] at a5;unfold LotW at a5 hx;by_cases hc:lI x xs[((xs.length:Int) - 1).toNat]!
 ·have a6:=lcont_iff.1 hc;obtain⟨a9,b0⟩:=a6
  have e:bN xs x=xs.set ((xs.length:Int) - 1).toNat (xs[((xs.length:Int) - 1).toNat]!.1,xs[((xs.length:Int) - 1).toNat]!.2.1,xs[((xs.length:Int) - 1).toNat]!.2.2+x.2.2):=by
   unfold bN;rw[a3] at hc ⊢;rw[if_neg h0,if_pos ⟨h1,hc⟩]
  rw[e];refine Nv ?_;intros;refine GPW.efu (Ef.f7 (e:=((xs[((xs.length:Int) - 1).toNat]!.1,xs[((xs.length:Int) - 1).toNat]!.2.1,xs[((xs.length:Int) - 1).toNat]!.2.2+x.2.2):Lot)) rfl rfl aQ rfl ab ae) ?_;rintro _ _ rfl;refine Nv ?_;intros;exact KX.a8 aA ah ⟨ad,cap,by rw[bH];rfl,rfl⟩
 ·have e:bN xs x=xs++[x]:=by
   unfold bN;rw[a3] at hc;rw[if_neg h0,if_neg (fun h=>hc h.2)]
  rw[e];rw[lcont_iff] at hc;by_cases hf:x.1=xs[((xs.length:Int) - 1).toNat]!.1
  ·have ha:¬x.2.1=xs[((xs.length:Int) - 1).toNat]!.2.1+xs[((xs.length:Int) - 1).toNat]!.2.2:=fun q=>hc ⟨hf,q⟩;refine Nv ?_;intros;refine GO.ef (Ef.a8 (enc:=aG) (e:=x) rfl rfl rfl rfl rfl aQ (eV _) ab ab) ae ?_;rintro _ _⟨a1,a0,rfl,rfl⟩;refine Nv ?_;intros;exact KX.en ⟨a1,a0,rfl,rfl⟩
  ·refine Nv ?_;intros;refine GO.ef (Ef.a8 (enc:=aG) (e:=x) rfl rfl rfl rfl rfl aQ (eV _) ab ab) ae ?_;rintro _ _⟨a1,a0,rfl,rfl⟩;refine Nv ?_;intros;exact KX.en ⟨a1,a0,rfl,rfl⟩
abbrev CS:=XA [.ev 5,.ev 6,.ev 7,.ev 8,.ef 4,.ef 9,.ef 10,.ef 11,.ev 12]
def NE{φ ψ:Prop}(k:ψ)(h:Hid ψ→φ:=by intro k;(repeat (first|refine aa ?_|intro zzz|refine G.dr 17 1 CS ?_));(repeat revert zzz);exact Hid.out k):φ:=h ⟨k⟩
def ED{L:LH}(x y:Lot):Tri Tryz.prog 118 #[aU (aG x),aU (aG y)] L (rtQ (ac (hdC x y)) L):=by
 refine Tri.bd ?_;refine NE ?_;intros;refine GPW.cr (nZ x.1 y.1) ?_;refine NE ?_;intros;refine GPW.cr (nZ x.2.1 y.2.1) ?_;refine NE ?_;intros;rename_i bc;refine GPW.ent (Ent.f7 (enc:=encZ .i64) (sz:=1) (xs:=[cmpI x.1 y.1,cmpI x.2.1 y.2.1]) rfl rfl (fun _ _=>rfl) cc) ?_;refine GPW.cr (tv (some ⟨bc,0,none⟩) 2 (cmpI x.1 y.1) (cmpI x.2.1 y.2.1)) ?_;refine NE ?_;intros;exact KX.en ⟨rfl,rfl⟩
def wG{E cap:Nat}{ad:OA}{xs:LL}(a0:xs.length<4611686018427387904) :
  Tri Tryz.prog 117 #[ag ad xs.length cap,.func (.func 118) #[] #[]] [osl aG 3 E ad cap xs] (fun v L'=>v=.tuple #[]∧∃ys,gV hdC xs ys∧L' = [osl aG 3 E ad cap ys]) :=
 Tri.c7 (ρ:=Tryz.sortL_ren) Tryz.sortL (k:=3) Tryz.isAgg47 Tryz.sizeOf47 (fun _=>rfl) eV (Lc:=[]) hdC IS Kk en118.1 (fun _ _ _=>trivial) (fun x y=>(ED (L:=[]) x y).mono (fun _ _ h=>h.1)) a0
def pI{ys:LL}{k:Nat}(h:k<ys.length):zset (ys.take (k+1))=zst (zset (ys.take k)) ys[k]!:=jX zst [] h
def HW(s:LL)(x:Lot):(zst s x).length≤s.length+1:=by
 unfold zst;split
 ·rw[bH];omega
 ·rw[aj,aI];omega
def wk(ys:LL):∀k,k≤ys.length→(zset (ys.take k)).length≤k
 | 0,_=>aq _
 | k+1,h=>by
  have h1:=wk ys k ab;have h2:=HW (zset (ys.take k)) ys[k]!;rw[pI ab];omega
def Ek{ys:LL}(hw:∀y∈ys,LotOk y):∀k,k≤ys.length→∀y∈zset (ys.take k),LotOk y
 | 0,_=>fun _ h=>by cases h
 | k+1,h=>by
  have h1:=Ek hw k ab;have hx:=hw _ (aV (ab:k<ys.length));rw[pI ab];generalize ys[k]! = x at hx;generalize zset (ys.take k)=s at h1;unfold LotOk at hx;unfold zst;split
  ·rename_i hc;intro y hy;rcases dj hy with hy|rfl
   ·exact h1 y hy
   ·have:=h1 _ (aV (ab:s.length - 1<s.length))
    unfold LotOk at this ⊢;dsimp only;omega
  ·intro y hy;rcases List.mem_append.1 hy with hy|hy
   ·exact h1 y hy
   ·rw[List.mem_singleton.1 hy];unfold LotOk;omega
abbrev EQ:=XF [.ev 17,.ev 18,.ev 19,.ev 20,.ev 21,.ev 22,.ev 23,.ev 24,.ev 25,.ev 26,.ev 27,.ev 28,.ev 29,.ev 30]
abbrev CR:=XF [.ev 17,.ef 18]
def NI{φ ψ:Prop}(k:ψ)(h:Hid ψ→φ:=by intro k;(repeat (first|refine aa ?_|intro zzz|refine G.dr 80 8 EQ ?_|refine G.dr 80 10 CR ?_));(repeat revert zzz);exact Hid.out k):φ:=h ⟨k⟩
def jf{L:LH}(ad:OA)(n c:Nat)(xs:LL)[Rds L ad Lot aG 3 xs](hn:n=xs.length)(hl:xs.length≤100000)(hw:∀x∈xs,LotOk x) :
  Tri Tryz.prog 56 #[ag ad n c] L (fun v L'=>∃b2 a5 ys,v=ag b2 (zset ys).length a5∧gV hdC xs ys∧L' = osl aG 3 tLot b2 a5 (zset ys)::L):=by
 subst hn;refine Tri.bd ?_;refine NI ?_;intros;refine GO.ca (iv ad xs.length c xs rfl ab) ?_;rintro _ _⟨a2,c1,rfl,rfl⟩;refine NI ?_;intros;(first|refine GO.ef (Ef.call (wG (E:=tLot) (ad:=a2) (cap:=c1) (xs:=xs) ab) rfl dd) ae ?_);rintro _ _⟨_,⟨rfl,ys,b1,rfl⟩,hL⟩;simp only[al,ak] at hL;subst hL;have c2:=b1.1.length_eq;have b6:∀y∈ys,LotOk y:=fun y hy=>hw y (b1.1.mem_iff.1 hy);rw[←c2];refine NI ?_;intros;refine G.ent (L':=osl aG 3 tLot none 0 []::osl aG 3 tLot a2 c1 ys::L) (Ent.c8 aG 3 tLot) ?_;refine G.loop (α:=Nat×OA×Nat) (fun g=>g.1≤ys.length) (fun g=>[(4,ag g.2.1 (zset (ys.take g.1)).length g.2.2),(13,ag a2 ys.length c1),(14,ac ys.length),(15,ac (g.1:Int))]) (fun g=>osl aG 3 tLot g.2.1 g.2.2 (zset (ys.take g.1))::osl aG 3 tLot a2 c1 ys::L) (fun g=>ys.length - g.1) (0,none,0) (aw _) aC (Ent.refl _) ?_;rintro⟨k,a3,a1⟩ hk;dsimp only at hk ⊢;by_cases b8:k<ys.length
 case neg =>
  rw[aD (ab:ys.length≤k)];refine NI ?_;intros;exact KX.en ⟨a3,a1,ys,rfl,b1,rfl⟩
 have b7:(k:Int).toNat=k:=aY k;have b0 : (k:Int).toNat<ys.length:=ab;have hx:=b6 _ (aV b0);have et:=pI b8;rw[show ys[k]! = ys[(k:Int).toNat]! by rw[b7]] at et;have b9:=wk ys k ab;have b4:=Ek b6 k ab;obtain⟨x,b5⟩:∃x,ys[(k:Int).toNat]! = x:=⟨_,rfl⟩;rw[b5] at hx et;generalize zset (ys.take k)=s at b9 b4 et ⊢;have c0:=hx;unfold LotOk at c0;refine G.c9 (show ∀θ R w,Sat θ ((osl aG 3 tLot a3 a1 s::osl aG 3 tLot a2 c1 ys::L)++R) w→(0<s.length→uc a3) from fun θ R w q h0=>oU (ad:=a3) (cap:=a1) (xs:=s) (enc:=aG) (sz:=3) (E:=tLot) h0 θ R w q) ?_;intro a7;refine NI ?_;intros;rw[b5];simp only[aG];by_cases h1:s.length=0
 ·have e:zst s x=s++[x]:=by unfold zst;rw[if_neg (fun q=>q.1 h1)]
  refine NI ?_;intros;refine GO.ef (Ef.a8 (enc:=aG) (e:=x) rfl rfl rfl rfl rfl aQ (eV _) ab ab) ae ?_;rintro _ _⟨a4,a0,rfl,rfl⟩;refine NI ?_;intros;refine⟨(k+1,a4,a0),by dsimp only;omega,by dsimp only;omega,?_,?_⟩
  ·dsimp only;rw[et,e,bh k];exact aC
  ·dsimp only;rw[et,e];exact ah
 have a6:=a7 ab;have a9:((s.length:Int) - 1).toNat=s.length - 1:=ab;have b3:=b4 _ (aV (ab:s.length - 1<s.length));rw[←a9] at b3;unfold LotOk at b3;by_cases hc:s[((s.length:Int) - 1).toNat]!.1=x.1∧x.2.1≤s[((s.length:Int) - 1).toNat]!.2.1+s[((s.length:Int) - 1).toNat]!.2.2
 ·have e:zst s x=s.set ((s.length:Int) - 1).toNat (s[((s.length:Int) - 1).toNat]!.1,s[((s.length:Int) - 1).toNat]!.2.1,max s[((s.length:Int) - 1).toNat]!.2.2 (x.2.1+x.2.2 - s[((s.length:Int) - 1).toNat]!.2.1)):=by
   unfold zst;rw[a9] at hc ⊢;rw[if_pos ⟨h1,hc⟩]
  obtain⟨c3,c4⟩:=hc;refine NI ?_;intros;refine GPW.evP (Ev.c7 rfl a6) ae ?_;refine NI ?_;intros;refine GPW.evP (Ev.c7 rfl a6) ae ?_;refine NI ?_;intros;refine GPW.evP (Ev.c7 rfl a6) ae ?_;refine NI ?_;intros;refine GPW.efu (Ef.f7 (e:=((s[((s.length:Int) - 1).toNat]!.1,s[((s.length:Int) - 1).toNat]!.2.1,max s[((s.length:Int) - 1).toNat]!.2.2 (x.2.1+x.2.2 - s[((s.length:Int) - 1).toNat]!.2.1)):Lot)) rfl rfl aQ rfl ab ae) ?_;rintro _ _ rfl;refine NI ?_;intros;refine⟨(k+1,a3,a1),by dsimp only;omega,by dsimp only;omega,?_,?_⟩
  ·dsimp only;rw[et,e,bH,bh k];exact aC
  ·dsimp only;rw[et,e];exact ah
 have e:zst s x=s++[x]:=by
  unfold zst;rw[a9] at hc;rw[if_neg (fun q=>hc q.2)]
 by_cases hf:s[((s.length:Int) - 1).toNat]!.1=x.1
 ·have ha:¬x.2.1≤s[((s.length:Int) - 1).toNat]!.2.1+s[((s.length:Int) - 1).toNat]!.2.2:=fun q=>hc ⟨hf,q⟩;refine NI ?_;intros;refine GO.ef (Ef.a8 (enc:=aG) (e:=x) rfl rfl rfl rfl rfl aQ (eV _) ab ab) ae ?_;rintro _ _⟨a4,a0,rfl,rfl⟩;refine NI ?_;intros;refine⟨(k+1,a4,a0),by dsimp only;omega,by dsimp only;omega,?_,?_⟩
  ·dsimp only;rw[et,e,bh k];exact aC
  ·dsimp only;rw[et,e];exact ah
 ·refine NI ?_;intros;refine GO.ef (Ef.a8 (enc:=aG) (e:=x) rfl rfl rfl rfl rfl aQ (eV _) ab ab) ae ?_;rintro _ _⟨a4,a0,rfl,rfl⟩;refine NI ?_;intros;refine⟨(k+1,a4,a0),by dsimp only;omega,by dsimp only;omega,?_,?_⟩
  ·dsimp only;rw[et,e,bh k];exact aC
  ·dsimp only;rw[et,e];exact ah
end
section
open Go.V
def xf{x:Lot}{set:LL}(h:SetOk set){p q:Nat}(a2:p≤q)(hq:q<set.length)(hp:pzP x set[p]!):pzP x set[q]!:=by
 rcases fc p q with a0|a1
 ·have h1:=(List.pairwise_iff_getElem.1 h.sl) p q ab hq a0;have h2:=h.ok _ (aV hq);rw[getElem!_of (ab:p<set.length)] at hp;rw[getElem!_of hq] at h2 ⊢;unfold pzP at hp ⊢;unfold sl at h1;unfold LotOk at h2;omega
 ·obtain rfl:p=q:=ab;exact hp
def HO(q:Lot×Bool):LV:=[aU (aG q.1),.bool q.2]
attribute [local irreducible] G GO GP GPW GPK Ev Ef EfR Ent CB GB V.Enters
abbrev CQ:=XF [.ev 17,.ev 18,.ev 19,.ev 20,.ev 21,.ev 22,.ev 23,.ev 24,.ev 25,.ev 26,.ev 27,.ev 28,.ev 29,.ev 30,.ev 31,.ev 32,.ev 33,.ev 34]
def NY{φ ψ:Prop}(k:ψ)(h:Hid ψ→φ:=by intro k;(repeat (first|refine aa ?_|intro zzz|refine G.dr 39 1 CQ ?_));(repeat revert zzz);exact Hid.out k):φ:=h ⟨k⟩
def Ds{L:LH}(bs bx:Nat)(sad:OA)(sc:Nat)(set:LL)[hr:Rds L sad Lot aG 3 set](x:Lot)(hx:LotW x)(hw:∀y∈set,LotOk y)(a2:set.length≤1000000)(k:Nat)(hk:k<set.length) :
  Tri Tryz.prog 172 #[ac (k:Int),ax bs,ax bx] (obj bs gz [ag sad set.length sc]::obj bx tLot (aG x)::L) (rtQ (.bool (dB (pzP x set[k]!))) (obj bs gz [ag sad set.length sc]::obj bx tLot (aG x)::L)):=by
 have a1:(k:Int).toNat=k:=aY k;have a0:=hw _ (aV hk);unfold LotOk at a0;unfold LotW at hx;rw[show set[k]! = set[(k:Int).toNat]! by rw[a1]] at a0 ⊢;simp only[aG];refine Tri.bd ?_;by_cases c1:x.1<set[(k:Int).toNat]!.1
 ·rw[bE (show pzP x set[(k:Int).toNat]! from .inl c1)];refine NY ?_;intros;exact KX.en ⟨rfl,rfl⟩
 by_cases c2:set[(k:Int).toNat]!.1=x.1
 ·by_cases c3:x.2.1<set[(k:Int).toNat]!.2.1+set[(k:Int).toNat]!.2.2
  ·rw[bE (show pzP x set[(k:Int).toNat]! from .inr ⟨c2,c3⟩)];refine NY ?_;intros;exact KX.a8 aA ah ⟨by rw[bE c3];rfl,rfl⟩
  ·rw[aW (fun h:pzP x set[(k:Int).toNat]! =>h.elim c1 (fun q=>c3 q.2))];refine NY ?_;intros;exact KX.a8 aA ah ⟨by rw[aW c3];rfl,rfl⟩
 ·rw[aW (fun h:pzP x set[(k:Int).toNat]! =>h.elim c1 (fun q=>c2 q.1))];refine NY ?_;intros;exact KX.en ⟨rfl,rfl⟩
def zu{L:LH}(bs bx:Nat)(sad:OA)(sc:Nat)(set:LL)[hr:Rds L sad Lot aG 3 set](x:Lot)(hx:LotW x)(hs:SetOk set)(a2:set.length≤1000000) :
  Tri Tryz.prog 151 #[ac (set.length:Int),.func (.func 172) #[] #[ax bs,ax bx]] (obj bs gz [ag sad set.length sc]::obj bx tLot (aG x)::L) (fun v L'=>∃i:Nat,v=ac (i:Int)∧(i≤set.length∧(∀p,p<i→¬pzP x set[p]!)∧(i<set.length→pzP x set[i]!))∧L' = obj bs gz [ag sad set.length sc]::obj bx tLot (aG x)::L):=by
 refine Tri.bd ?_;refine Ks ?_;intros;refine G.loop (α:=Nat×Nat) (fun g=>(g.1≤g.2∧g.2≤set.length)∧(∀p,p<g.1→¬pzP x set[p]!)∧∀p,g.2≤p→p<set.length→pzP x set[p]!) (fun g=>[(1,.func (.func 172) #[] #[ax bs,ax bx]),(5,ac (g.1:Int)),(6,ac (g.2:Int))]) (fun _=>obj bs gz [ag sad set.length sc]::obj bx tLot (aG x)::L) (fun g=>g.2 - g.1) (0,set.length) ⟨⟨aw _,aq _⟩,fun p hp=>absurd hp (fN p),fun p h1 h2=>absurd h2 (by dsimp only at h1;omega)⟩ aC (Ent.refl _) ?_;rintro⟨i,j⟩ ⟨⟨h1,h2⟩,h3,h4⟩;dsimp only at h1 h2 h3 h4 ⊢;by_cases a3:i<j
 case neg =>
  have a0:i=j:=ab;subst a0;refine Ks ?_;intros;exact KX.en ⟨i,rfl,⟨h2,h3,fun q=>h4 i (aq _) q⟩,rfl⟩
 refine Ks ?_;intros;refine GO.ev (Ev.shr rfl rfl ae) ae ?_
 have e2:((i:Int)+(j:Int)).fdiv (2 ^ min ((1:Int).toNat) IntKind.u64.bits)=(((i+j) / 2:Nat):Int):=by
  rw[dG _ ae];simp[IntKind.bits]
 rw[e2];obtain⟨h,hh⟩:∃h,(i+j) / 2=h:=⟨_,rfl⟩;rw[hh];refine Ks ?_;intros;refine GO.ef (Ef.c7 rfl rfl (Ds bs bx sad sc set x hx hs.ok a2 h ab)) ae ?_;rintro _ _⟨rfl,rfl⟩;by_cases hc:pzP x set[h]!
 ·rw[bE hc];refine Ks ?_;intros;exact⟨(i,h),⟨⟨ab,ab⟩,h3,fun p hp a1=>xf hs hp a1 hc⟩,by dsimp only;omega,aC,Ent.refl _⟩
 ·rw[aW hc];refine Ks ?_;intros;refine⟨(h+1,j),⟨⟨ab,ab⟩,fun p hp q=>?_,h4⟩,by dsimp only;omega,?_,Ent.refl _⟩
  ·dsimp only at hp;exact hc (xf hs (ab:p≤h) ab q)
  ·rw[show(((h+1,j):Nat×Nat).1:Int)=(h:Int)+1 by simp];exact aC
end
section
open Go.V
attribute [local irreducible] G GO GP GPW GPK Ev Ef EfR Ent CB GB V.Enters
abbrev CP:=XF [.ev 17,.ev 18,.ev 19,.ev 20,.ev 21,.ev 22,.ev 23,.ev 24,.ev 25,.ev 26,.ev 27,.ev 28,.ev 29,.ev 30,.ev 31]
abbrev CO:=XD []
abbrev CN:=XF [.ev 17]
def bP{φ ψ:Prop}(k:ψ)(h:Hid ψ→φ:=by intro k;(with_reducible apply G.a8);first|refine G.dr 131 4 CP (Hid.out k)|refine G.dr 131 6 CO (Hid.out k)|refine G.dr 131 9 CN (Hid.out k)):φ:=h ⟨k⟩
def Oc{φ ψ:Prop}(k:ψ)(h:Hid ψ→φ:=by intro k;(repeat (first|refine aa ?_|intro zzz|refine bP ?_));(repeat revert zzz);exact Hid.out k):φ:=h ⟨k⟩
def pY(bl bs:Nat)(ad:OA)(c:Nat)(l:LL)(sad:OA)(sc:Nat)(set:LL)(e9:l.length≤1000000)(e7:set.length≤1000000)(hw:∀x∈l,LotOk x)(hs:SetOk set) :
  Ej Tryz.prog 171 [ax bl,ax bs] ((l.flatMap (pcs set)).map HO) [obj bl gz [ag ad l.length c],obj bs gz [ag sad set.length sc],isl aG 3 ad l,isl aG 3 sad set] []:=by
 intro i J Jx hy;rw[an]
 have a7 : ∀D q R,l.flatMap (pcs set)=D++q::R→YTri Tryz.prog i (HO q) [J D.length] (fun v L'=>(v=.bool true∧L' = [J (D.length+1)])∨(v=.bool false∧L' = [Jx D.length])):=by
  intro D q R e;have hk:D.length<(l.flatMap (pcs set)).length:=by rw[e,aj,aM];omega
  have h:=hy D.length (by rw[an];exact hk);rw[eC] at h;have e2:(l.flatMap (pcs set))[D.length]=q:=(List.getElem_of_eq e hk).trans cc;rw[e2] at h;exact h
 clear hy;have hV:∀k,k≤l.length→l.flatMap (pcs set)=(l.take k).flatMap (pcs set)++(l.drop k).flatMap (pcs set):=fun k _=>by rw[←cl,cK]
 obtain⟨V,c6⟩:∃V,l.flatMap (pcs set)=V:=⟨_,rfl⟩;rw[c6] at a7 hV ⊢;refine Tri.bd (args:=[.func (.yield i) #[] #[],ax bl,ax bs]) ?_;refine Oc ?_;intros;refine G.loop (α:=Nat) (fun k=>k≤l.length) (fun k=>[(0,.func (.yield i) #[] #[]),(1,ax bl),(2,ax bs),(9,ag ad l.length c),(10,ac l.length),(11,ac (k:Int))]) (fun k=>[J ((l.take k).flatMap (pcs set)).length,obj bl gz [ag ad l.length c],obj bs gz [ag sad set.length sc],isl aG 3 ad l,isl aG 3 sad set]) (fun k=>l.length - k) 0 (aw _) aC (Ent.refl _) ?_;intro k hk;by_cases d3:k<l.length
 case neg =>
  have e5:k=l.length:=ab;have e:(l.take k).flatMap (pcs set)=V:=by rw[e5,cC,c6]
  rw[e];refine Oc ?_;intros;exact KX.c8 aA (Ent.a8 (Ent.nil _)) (.inl rfl)
 have e4:(k:Int).toNat=k:=aY k;have b4 : (k:Int).toNat<l.length:=ab;obtain⟨x0,a6⟩:∃x0,l[(k:Int).toNat]! = x0:=⟨_,rfl⟩;have b8:LotOk x0:=by rw[←a6];exact hw _ (aV b4)
 have a4:l[k]! = x0:=by rw[←a6,e4]
 have hd:l.drop k=x0::l.drop (k+1):=by rw[jl d3,a4]
 have a9:V=(l.take k).flatMap (pcs set)++(pcs set x0++(l.drop (k+1)).flatMap (pcs set)):=by
  have:=hV k hk
  rw[hd,aO] at this;exact this
 have c0:=hV (k+1) d3;obtain⟨R,hR⟩:∃R,(l.drop (k+1)).flatMap (pcs set)=R:=⟨_,rfl⟩;rw[hR] at a9 c0
 have a3:∀D,V=D++R→D.length=((l.take (k+1)).flatMap (pcs set)).length:=fun D e=>by
  have:=List.append_cancel_right (c0.symm.trans e)
  rw[this]
 refine Oc ?_;intros;rw[a6];refine Oc ?_;intros;rename_i bx;refine GO.ent (L':=obj bs gz [ag sad set.length sc]::obj bx tLot (aG x0)::[J ((l.take k).flatMap (pcs set)).length,obj bl gz [ag ad l.length c],isl aG 3 ad l,isl aG 3 sad set]) (by simp only[aG];exact ah) ?_;refine GO.ca (zu bs bx sad sc set x0 b8.w hs e7) ?_;rintro _ _⟨i0,rfl,⟨b3,d0,d1⟩,rfl⟩;have b7:set.drop i0=skp x0 set:=wJ x0 b3 d0 d1;have b2:=mQ x0 hs.sl hs.ok;rw[←b7] at b2;have b0:V=(l.take k).flatMap (pcs set)++(pcz (set.drop i0) x0++R):=by rw[b7];exact a9
 generalize (l.take k).flatMap (pcs set)=D0 at b0;clear b7 d0 d1 a9;refine Oc ?_;intros;refine G.loop (α:=Lot×Nat×List (Lot×Bool)) (fun g=>LotW g.1∧g.2.1≤set.length∧(∀y∈set.drop g.2.1,pzP g.1 y)∧V=g.2.2++(pcz (set.drop g.2.1) g.1++R)) (fun g=>[(0,.func (.yield i) #[] #[]),(1,ax bl),(2,ax bs),(5,ax bx),(6,ac (g.2.1:Int)),(9,ag ad l.length c),(10,ac l.length),(11,ac (k:Int))]) (fun g=>[J g.2.2.length,obj bl gz [ag ad l.length c],obj bs gz [ag sad set.length sc],obj bx tLot (aG g.1),isl aG 3 ad l,isl aG 3 sad set]) (fun g=>set.length - g.2.1) (x0,i0,D0) ⟨b8.w,b3,b2,b0⟩ aC (by simp only[aG];exact ah) ?_;clear b0 b2 b3 b8 a6 a4 hd;rintro⟨x,j,D⟩ ⟨d6,hj,hh,a0⟩;dsimp only at d6 hj hh a0 ⊢;have b9:=d6;unfold LotW at b9;have e3:(j:Int).toNat=j:=aY j;have d2:set[j]! = set[(j:Int).toNat]!:=by rw[e3]
 have e0:j<set.length→LotOk set[(j:Int).toNat]!:=fun h=>by rw[←d2];exact hs.ok _ (aV h)
 have b1:j<set.length→set.drop j=set[(j:Int).toNat]!::set.drop (j+1):=fun h=>by rw[jl h,d2]
 simp only[aG];repeat first|refine G.sn 4 ?_|refine dq ?_|intro _|refine bP ?_
 refine G.c7 (α:=Unit) (fun _=>True) (fun _=>[(0,.func (.yield i) #[] #[]),(1,ax bl),(2,ax bs),(5,ax bx),(6,ac (j:Int)),(9,ag ad l.length c),(10,ac l.length),(11,ac (k:Int)),(50,.bool (dB (0<x.2.2∧j<set.length∧set[(j:Int).toNat]!.1=x.1∧set[(j:Int).toNat]!.2.1<x.2.1+x.2.2)))]) (fun _=>[J D.length,obj bl gz [ag ad l.length c],obj bs gz [ag sad set.length sc],obj bx tLot [ac x.1,ac x.2.1,ac x.2.2],isl aG 3 ad l,isl aG 3 sad set]) ?_ ?_
 ·by_cases c1:0<x.2.2
  case neg =>
   rw[aW (fun q=>c1 q.1)];refine Oc ?_;intros;exact⟨(),trivial,aC,Ent.refl _⟩
  by_cases c2:j<set.length
  case neg =>
   rw[aW (fun q=>c2 q.2.1)];refine Oc ?_;intros;exact⟨(),trivial,aC,Ent.refl _⟩
  have a1:=e0 c2;unfold LotOk at a1;by_cases c3:set[(j:Int).toNat]!.1=x.1
  case neg =>
   rw[aW (fun q=>c3 q.2.2.1)];refine Oc ?_;intros;exact⟨(),trivial,aC,Ent.refl _⟩
  rw[show dB (0<x.2.2∧j<set.length∧set[(j:Int).toNat]!.1=x.1∧set[(j:Int).toNat]!.2.1<x.2.1+x.2.2)=dB (set[(j:Int).toNat]!.2.1<x.2.1+x.2.2) from by rw[dK,dK];exact decide_eq_decide.2 ⟨fun q=>q.2.2.2,fun q=>⟨c1,c2,c3,q⟩⟩];refine Oc ?_;intros;exact⟨(),trivial,aC,Ent.refl _⟩
 rintro _ _;by_cases C:0<x.2.2∧j<set.length∧set[(j:Int).toNat]!.1=x.1∧set[(j:Int).toNat]!.2.1<x.2.1+x.2.2
 case neg =>
  rw[aW C];by_cases c1:0<x.2.2
  ·have e6:pcz (set.drop j) x=[(x,false)]:=by
    by_cases c2:j<set.length
    ·rw[b1 c2];exact oN c1 (fun q=>C ⟨c1,c2,q.1,q.2⟩)
    ·rw[bQ ab];exact if_pos c1
   rw[e6] at a0;have a5:=a7 D (x,false) R a0;have he:=a3 (D++[(x,false)]) (by rw[a0];simp);rw[aj,aI] at he;refine Oc ?_;intros;refine GO.ent (Ent.at (A:=J D.length) (Ent.refl _)) ?_;((with_reducible apply GO.a8);refine GO.efR (EfR.yield (a5) rfl rfl dd) ae ?_);rintro _ _⟨_,(⟨rfl,rfl⟩|⟨rfl,rfl⟩),hL⟩
   ·simp only[al,ak] at hL;subst hL;refine Oc ?_;intros;refine⟨k+1,ab,ab,?_,?_⟩
    ·rw[show(((k+1:Nat)):Int)=(k:Int)+1 by omega];exact aC
    ·rw[←he];exact ah
   ·simp only[al,ak] at hL;subst hL;refine Oc ?_;intros;exact KX.a8 aA (Ent.a8 (Ent.nil _)) (.inr ⟨D.length,rfl⟩)
  ·have he:=a3 D (by rw[a0,oM c1];rfl);refine Oc ?_;intros;refine⟨k+1,ab,ab,?_,?_⟩
   ·rw[show(((k+1:Nat)):Int)=(k:Int)+1 by omega];exact aC
   ·rw[←he];exact ah
 rw[bE C];obtain⟨c1,c2,c3,c4⟩:=C;have a1:=e0 c2;have d4:=hh set[(j:Int).toNat]! (by rw[b1 c2];exact av);have b6:(set.drop j).Pairwise sl:=(hs.sl.sublist (List.drop_sublist j set));rw[b1 c2] at b6 a0 hh;rw[eG] at b6
 have e1:∀w∈set.drop (j+1),pzP (pz2 x set[(j:Int).toNat]!) w:=fun w hw=>by
  have h1:=b6.1 w hw;have h2:=hs.ok w (cG hw);unfold sl at h1;unfold LotOk at h2 a1;unfold pzP pz2 pzi pzo;dsimp only;omega
 rw[qV ⟨c1,c3,c4⟩] at a0
 have e8:LotW (pz2 x set[(j:Int).toNat]!):=by
  unfold LotOk at a1;unfold pzP at d4;unfold LotW pz2 pzi pzo;dsimp only;omega
 have ho:0≤pzo x set[(j:Int).toNat]!∧pzo x set[(j:Int).toNat]! < x.2.2∧0<pzi x set[(j:Int).toNat]!∧pzi x set[(j:Int).toNat]!≤x.2.2 - pzo x set[(j:Int).toNat]!:=by
  unfold LotOk at a1;unfold pzP at d4;unfold pzi pzo;omega
 have eo:max 0 (set[(j:Int).toNat]!.2.1 - x.2.1)=pzo x set[(j:Int).toNat]!:=rfl;have ei:min (x.2.2 - pzo x set[(j:Int).toNat]!) (set[(j:Int).toNat]!.2.1+set[(j:Int).toNat]!.2.2 - (x.2.1+pzo x set[(j:Int).toNat]!))=pzi x set[(j:Int).toNat]!:=rfl;have e2:pz2 x set[(j:Int).toNat]! = (x.1,x.2.1+pzo x set[(j:Int).toNat]! + pzi x set[(j:Int).toNat]!,x.2.2 - pzo x set[(j:Int).toNat]! - pzi x set[(j:Int).toNat]!):=rfl;unfold LotOk at a1;repeat first|refine G.sn 6 ?_|refine dq ?_|intro _|refine bP ?_
 refine G.c7 (α:=Unit) (fun _=>True) (fun _=>[(0,.func (.yield i) #[] #[]),(1,ax bl),(2,ax bs),(5,ax bx),(6,ac (j:Int)),(7,ac (pzo x set[(j:Int).toNat]!)),(9,ag ad l.length c),(10,ac l.length),(11,ac (k:Int))]) (fun _=>[J D.length,obj bl gz [ag ad l.length c],obj bs gz [ag sad set.length sc],obj bx tLot [ac x.1,ac x.2.1,ac x.2.2],isl aG 3 ad l,isl aG 3 sad set]) ?_ ?_
 ·rw[←eo];refine Oc ?_;intros;exact⟨(),trivial,aC,Ent.refl _⟩
 rintro _ _;obtain⟨o,b5⟩:∃o,pzo x set[(j:Int).toNat]! = o:=⟨_,rfl⟩;obtain⟨q,d5⟩:∃q,pzi x set[(j:Int).toNat]! = q:=⟨_,rfl⟩;rw[b5,d5] at ho e2 ei;rw[b5,d5] at a0;rw[b5];clear eo;obtain⟨f0,f1,f2,f3⟩:=ho;obtain⟨D1,a2⟩:∃D1,D1=D++(if 0<o then[(((x.1,x.2.1,o):Lot),false)] else[]):=⟨_,rfl⟩;repeat first|refine G.sm 7 ?_|refine dq ?_|intro _|refine bP ?_
 refine G.c7 (α:=Unit) (fun _=>True) (fun _=>[(0,.func (.yield i) #[] #[]),(1,ax bl),(2,ax bs),(5,ax bx),(6,ac (j:Int)),(7,ac o),(9,ag ad l.length c),(10,ac l.length),(11,ac (k:Int))]) (fun _=>[J D1.length,obj bl gz [ag ad l.length c],obj bs gz [ag sad set.length sc],obj bx tLot [ac x.1,ac x.2.1,ac x.2.2],isl aG 3 ad l,isl aG 3 sad set]) ?_ ?_
 ·by_cases h0:0<o
  ·rw[if_pos h0] at a2 a0;have a5:=a7 D ((x.1,x.2.1,o),false) _ a0;refine Oc ?_;intros;refine GO.ent (Ent.at (A:=J D.length) (Ent.refl _)) ?_;((with_reducible apply GO.a8);refine GO.efR (EfR.yield (a5) rfl rfl dd) ae ?_);rintro _ _⟨_,(⟨rfl,rfl⟩|⟨rfl,rfl⟩),hL⟩
   ·simp only[al,ak] at hL;subst hL;refine Oc ?_;intros;refine⟨(),trivial,aC,?_⟩;rw[a2,aj,aI];exact Ent.refl _
   ·simp only[al,ak] at hL;subst hL;refine Oc ?_;intros;exact KX.a8 aA (Ent.a8 (Ent.nil _)) (.inr ⟨D.length,rfl⟩)
  ·rw[if_neg h0,aH] at a2;refine Oc ?_;intros;refine⟨(),trivial,aC,?_⟩;rw[a2];exact Ent.refl _
 rintro _ _
 have c5:V=D1++(((x.1,x.2.1+o,q),true)::(pcz (set.drop (j+1)) (pz2 x set[(j:Int).toNat]!)++R)):=by
  rw[a0,a2];simp only[aB,al]
 have a5:=a7 D1 ((x.1,x.2.1+o,q),true) _ c5;repeat first|refine G.sn 9 ?_|refine dq ?_|intro _|refine bP ?_
 refine G.c7 (α:=Unit) (fun _=>True) (fun _=>[(0,.func (.yield i) #[] #[]),(1,ax bl),(2,ax bs),(5,ax bx),(6,ac (j:Int)),(8,ac q),(9,ag ad l.length c),(10,ac l.length),(11,ac (k:Int))]) (fun _=>[J D1.length,obj bl gz [ag ad l.length c],obj bs gz [ag sad set.length sc],obj bx tLot [ac x.1,ac (x.2.1+o),ac (x.2.2 - o)],isl aG 3 ad l,isl aG 3 sad set]) ?_ ?_
 ·rw[←ei];refine Oc ?_;intros;exact⟨(),trivial,aC,by exact ah⟩
 rintro _ _;refine Oc ?_;intros;refine GO.ent (Ent.at (A:=J D1.length) (Ent.refl _)) ?_;((with_reducible apply GO.a8);refine GO.efR (EfR.yield (a5) rfl rfl dd) ae ?_);rintro _ _⟨_,(⟨rfl,rfl⟩|⟨rfl,rfl⟩),hL⟩
 ·simp only[al,ak] at hL;subst hL;refine Oc ?_;intros;refine⟨(pz2 x set[(j:Int).toNat]!,j+1,D1++[((x.1,x.2.1+o,q),true)]),⟨e8,by dsimp only;omega,e1,by dsimp only;rw[c5];simp⟩,by dsimp only;omega,?_,?_⟩
  ·dsimp only;rw[show(((j+1:Nat)):Int)=(j:Int)+1 by omega];exact aC
  ·dsimp only;rw[aj,aI,e2];simp only[aG];exact ah
 ·simp only[al,ak] at hL;subst hL;refine Oc ?_;intros;exact KX.a8 aA (Ent.a8 (Ent.nil _)) (.inr ⟨D1.length,rfl⟩)
