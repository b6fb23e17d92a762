/- Lemmas. -/
import Derived.Test.YtlgpgjdggilkgaaGreatDoorErbm
set_option linter.all false
set_option maxHeartbeats 16000000
namespace Go.Proofs.YtlgpgjdggilkgaaGreatDoor
section
open Go.V
attribute [local irreducible] Δ R GP Ο h2 GF GE O Ef A8 A CB GB V.Enters bF Ix
def pm{L:LH}(nb lb:Nat)(d Q:Int)(hs:0<=d/\d<Q)(a3:Q<=12)(n0:E0)(S0:Χ)(ζ:D4)(hA:Lf ζ d Q n0.m S0)(h5:gm S0+E9 n0.m<=2000)(G:Int) :
  Λ Ε 41 #[al nb,E G] (a1 nb lb d Q n0 (aN lb S0::L)) (kD nb lb d Q (dK d G n0.m S0) L):=by
 have h3:=hA.QB a3;have j3:n0.m.δ.length=n0.δ.length:=ah _;have k4:n0.m.Ζ.length=n0.Ζ.length:=ah _;have k0:=ll n0.m;unfold dK;refine Λ.bd ?_;refine Ih ?_;intros;refine R.ca (rA nb lb d Q n0 B B) ?_;rintro _ _⟨Kk,Kl,rfl,rfl⟩;generalize fy n0.m=ks at *;have hF:=λi=>qG (G:=G) (b:=2000) hs a3 (au _) (ks.take i) n0.m S0 hA h5;refine Ih ?_;intros;refine Δ.loop (α:=Nat×E0×OA×Nat×List JQ) (λg=>g.1<=ks.length/\g.2.1.m=(bQ (Ms d G) (ks.take g.1) n0.m S0).2.1/\g.2.2.2.2.map (·.m)=(bQ (Ms d G) (ks.take g.1) n0.m S0).1) (λg=>[(0,al nb),(1,E G),(5,ae g.2.2.1 g.2.2.2.2.length g.2.2.2.1),(14,ae Kk ks.length Kl),(15,E (ks.length:Int)),(16,E (g.1:Int))]) (λg=>Υ aV 3 hy g.2.2.1 g.2.2.2.1 g.2.2.2.2::Ρ cV g.2.2.2.2::Υ (a0 .i64) 1 kR Kk Kl ks::a1 nb lb d Q g.2.1 (aN lb (bQ (Ms d G) (ks.take g.1) n0.m S0).2.2::L)) (λg=>ks.length - g.1) (0,n0,none,0,[]) ⟨aC _,by rw[aU];rfl,by rw[aU];rfl⟩ aA ?_ ?_
 .dsimp only;rw[aU];refine(A.c8 aV 3 hy).trans ((A.a8 cV).trans ?_);simp only[a1,cw,bQ];exact ag
 rintro⟨i,n,JK,JL,T⟩ ⟨hi,hn,c0⟩;dsimp only at hi hn c0 ⊢;have d4:=hF i
 have k3:T.length<=600000000:=by
  have e1:=congrArg List.length c0;have e2:=d4.len;rw[ah] at e1;rw[aK] at e2;have e3:=bK 330100 (B:min i ks.length<=1536);omega
 by_cases h7:i<ks.length
 case neg =>
  have d2:ks.take i=ks:=aG B;rw[d2] at hn c0 ⊢;refine Ih ?_;intros;refine KX.a8 aw ?_ ⟨JK,JL,T,n,rfl,c0,hn,rfl⟩;simp only[a1,cw];exact ag
 have h4:(i:Int).toNat=i:=B;have I:=nO (Ms d G) ks n0.m S0 h7;generalize bQ (Ms d G) (ks.take i) n0.m S0=Io at *;have c4:Lf ζ d Q n.m Io.2.2:=by rw[hn];exact d4.nd
 have g7:gm Io.2.2+E9 n.m<=2000:=by rw[hn];exact d4.bd
 rw[<-hn] at I;generalize X6:Io.2.2=S1 at *;generalize hkk:ks[i]! = k at *;have d5:Ms d G k n.m S1=((JS d G k n.m S1).1++(KV d G k (JS d G k n.m S1).2.1 (JS d G k n.m S1).2.2).1,(KV d G k (JS d G k n.m S1).2.1 (JS d G k n.m S1).2.2).2.1,(KV d G k (JS d G k n.m S1).2.1 (JS d G k n.m S1).2.2).2.2):=rfl;rw[d5] at I;dsimp only at I;have hU:=Ed (G:=G) (F:=k) hs a3 c4 g7 (au _);simp only[a1,cw];refine Δ.c9 (dR (b:=n.mb)) λf6=>?_;repeat first|refine Δ.sm 5 ?_|refine cR ?_|intro
 rw[h4,hkk];refine Δ.c7 (α:=E0×OA×Nat×List JQ) (λg=>g.1.m=(JS d G k n.m S1).2.1/\g.2.2.2.map (·.m)=T.map (·.m)++(JS d G k n.m S1).1) (λg=>[(0,al nb),(1,E G),(5,ae g.2.1 g.2.2.2.length g.2.2.1),(7,E k),(14,ae Kk ks.length Kl),(15,E (ks.length:Int)),(16,E (i:Int))]) (λg=>Υ aV 3 hy g.2.1 g.2.2.1 g.2.2.2::Ρ cV g.2.2.2::Υ (a0 .i64) 1 kR Kk Kl ks::a1 nb lb d Q g.1 (aN lb (JS d G k n.m S1).2.2::L)) ?_ ?_
 .cases hg:List.lookup k n.δ with
  | none =>
   have hu:JS d G k n.m S1=([],n.m,S1):=by
    unfold JS;rw[fo,hg];rfl
   rw[hu];refine Ih ?_;intros;refine R.ev (O.a8 rfl rfl) ac ?_;rw[hg];dsimp only[Option.map,Option.getD,Option.isSome];refine Ih ?_;intros;refine⟨(n,JK,JL,T),⟨rfl,(aJ _).symm⟩,aA,?_⟩;simp only[a1,cw];exact ag
  | some x =>
   have hl:dV n.m.δ k=some x.m:=by rw[fo,hg];rfl
   have hw:=c4.KA.ex _ (bT hl);have c5:LJ Q k:=hw.F;have hI:id k:=c5.i64 a3;obtain⟨⟨e1,e2,e3,e4⟩,hm,b3⟩:=Cw (G:=G) hs a3 c4 hl
   have hu:JS d G k n.m S1=Ix d G (eH d k x.m G).1 { n.m with δ:=fc n.m.δ k (eH d k x.m G).2 } S1:=by
    unfold JS;rw[hl]
   have hin:=c4.hin.Kd (F:=k) (x:=(eH d k x.m G).2) (by rw[e2];exact hw.ok.gl);have i5:=hU.len;refine Δ.υ (A.at (Μ:=ew F7 n.δ) (oX f6 hg)) ?_;simp only[J8,Jn];refine Ih ?_;intros;refine R.ev (O.a8 rfl rfl) ac ?_;rw[hg];dsimp only[Option.map,Option.getD,Option.isSome,cc];refine Ih ?_;intros;refine R.υ (Y:=obj nb B2 (cw lb d Q n.ω n.hl n.mb n.mp n.mr)::J8 x (ew F7 (GO n.δ k)::τ cu cc n.mb n.δ::τ cu cg n.mp n.Ζ::ew F2 n.Ζ::τ B7 bE n.mr (G8 n.C1)::aN lb S1::Υ aV 3 hy JK JL T::Ρ cV T::Υ (a0 .i64) 1 kR Kk Kl ks::L)) (by simp only[cw,J8,Jn];exact ag) ?_;refine R.ca (Cv nb lb d Q n.ω n.hl n.mb n.mp n.mr k hI x hw.ok G) ?_;rintro _ _⟨g4,c3,us,y,rfl,i7,g1,rfl⟩;have e7:us.map (·.m)=(eH d k x.m G).1:=congrArg (·.1) g1;have e8:y.m=(eH d k x.m G).2:=congrArg (·.2) g1;let n1:E0:={ n with δ:=fc n.δ k y }
   have f4:n1.m={ n.m with δ:=fc n.m.δ k (eH d k x.m G).2 }:=by
    rw[<-e8];exact pF n k y
   rw[<-f4] at hin hu;rw[<-e7] at hm b3 hu;rw[ah] at b3;have i4:E9 n1.m=E9 n.m:=by rw[f4];rfl
   have hz:fD d (us.map (·.m))=0:=ji λm d6=>(hm m d6).2.2;rw[hu] at i5 ⊢;refine Ih ?_;intros;refine R.υ (Y:=Υ aV 3 hy g4 c3 us::Ρ cV us::a1 nb lb d Q n1 (aN lb S1::(Υ aV 3 hy JK JL T::Ρ cV T::Υ (a0 .i64) 1 kR Kk Kl ks::L))) ?_ ?_
   .refine A.trans ?_ (A.c7 (A.c7 (jy f6 hg y i7)));simp only[J8,cw];exact ag
   refine R.ca (lP nb lb d Q n1 S1 ζ 2000 (au _) G g4 c3 us (λm d6=>(hm _ (Kg d6)).1) hin B B B) ?_;rintro _ _⟨i9,g6,ds,n2,rfl,f2,b6,rfl⟩
   have j4:ds.length<=330000:=by
    have e:=congrArg List.length f2;rw[ah] at e;omega
   simp only[a1,cw];refine Ih ?_;intros;refine R.ef (Ef.c9 (Β:=aV) (ys:=ds) rfl rfl rfl rfl rfl (λe _=>dG e) B B) ac ?_;rintro _ _⟨b8,a9,rfl,rfl⟩;refine Ih ?_;intros;refine⟨(n2,b8,a9,T++ds),⟨b6,by rw[aL,f2]⟩,aA,?_⟩;refine(A.at (Μ:=Ρ cV ds) (A.refl _)).trans ?_;refine(A.at (Μ:=Ρ cV T) (A.refl _)).trans ?_;refine(A.c9 (f:=cV) ed).trans ?_;simp only[a1,cw];exact ag
 rintro⟨n2,b1,r,b4⟩ ⟨b6,a6⟩;dsimp only at b6 a6 ⊢
 have h9:b4.length<=600330000:=by
  have e1:=congrArg List.length a6;have e2:=hU.len;rw[ah,aq,ah] at e1;omega
 generalize JS d G k n.m S1=Rp at *;have d3:Lf ζ d Q n2.m Rp.2.2:=by rw[b6];exact hU.nd
 have j2:gm Rp.2.2+E9 n2.m<=2000:=by rw[b6];exact hU.bd
 rw[<-b6] at I;generalize X7:Rp.2.2=S2 at *;rw[c0] at a6;simp only[a1,cw];refine Δ.c9 (dR (b:=n2.mp)) λd0=>?_;cases hg:List.lookup k n2.Ζ with
 | none =>
  have hp:KV d G k n2.m S2=([],n2.m,S2):=by
   unfold KV;rw[eQ,hg];rfl
  rw[hp] at I;refine Ih ?_;intros;refine R.ev (O.a8 rfl rfl) ac ?_;rw[hg];dsimp only[Option.map,Option.getD,Option.isSome];refine Ih ?_;intros;refine⟨(i+1,n2,b1,r,b4),⟨by dsimp only;omega,by rw[I],by rw[I];dsimp only;rw[aJ];exact a6⟩,by dsimp only;omega,?_,?_⟩
  .dsimp only;rw[bC i];exact aA
  .rw[I];simp only[a1,cw];exact ag
 | some p =>
  have hl:dV n2.m.Ζ k=some p.m:=by rw[eQ,hg];rfl
  have hw:=d3.KA.pt _ (bT hl);have c5:LJ Q k:=hw.F;have f0:id k:=c5.i64 a3;have d1:=d3.hin.pts _ (bT hl);have i3:=pC (bT hl);dsimp only at d1 i3 hw;refine Δ.υ (A.at (Μ:=ew F2 n2.Ζ) (lI d0 hg)) ?_;have b5:=iB (nb:=nb) (lb:=lb) (d:=d) (Q:=Q) (L:=aN lb S2::L) d0 hg p rfl;rw[iJ hg d0] at b5;simp only[a1,cw,Ku,J2] at b5 ⊢;by_cases c1:p.state=1\/p.state=2
  case neg =>
   have J:¬p.state=1:=λq=>c1 (.inl q);have U:¬p.state=2:=λq=>c1 (.inr q)
   have hp:KV d G k n2.m S2=([],n2.m,S2):=by
    unfold KV;rw[hl];exact Ω c1
   rw[hp] at I;refine Ih ?_;intros;refine R.ev (O.a8 rfl rfl) ac ?_;rw[hg];dsimp only[Option.map,Option.getD,Option.isSome,cg];refine Ih ?_;intros;refine⟨(i+1,n2,b1,r,b4),⟨by dsimp only;omega,by rw[I],by rw[I];dsimp only;rw[aJ];exact a6⟩,by dsimp only;omega,?_,?_⟩
   .dsimp only;rw[bC i];exact aA
   .rw[I];dsimp only;refine A.trans ?_ (A.c7 (A.c7 (A.c7 b5)));exact ag
  have hp:KV d G k n2.m S2=((Is (Iz d k p.state p.Φ G) p.m.Η S2).1,{ n2.m with Ζ:=fc n2.m.Ζ k ⟨p.state,p.Φ,(Is (Iz d k p.state p.Φ G) p.m.Η S2).2.1⟩ },(Is (Iz d k p.state p.Φ G) p.m.Η S2).2.2):=by
   unfold KV;rw[hl];exact μ c1
  rw[hp] at I;refine Ih ?_;intros;refine R.ev (O.a8 rfl rfl) ac ?_;rw[hg];dsimp only[Option.map,Option.getD,Option.isSome,cg];repeat first|refine Δ.sm 9 ?_|refine cR ?_|intro
  refine Δ.c7 (α:=Unit) (λ_=>True) (λ_=>[(0,al nb),(1,E G),(5,ae b1 b4.length r),(7,E k),(10,.pointer (some ⟨p.b,0,none⟩)),(14,ae Kk ks.length Kl),(15,E (ks.length:Int)),(16,E (i:Int))]) (λ_=>obj p.b JA [E p.state,E p.Φ,ae p.ad p.Η.length p.fe]::Υ cY 8 Jv p.ad p.fe p.Η::Ρ G6 p.Η::Υ aV 3 hy b1 r b4::Ρ cV b4::aN lb S2::obj nb B2 [al lb,E d,E Q,E n2.ω,E n2.hl,.map (some n2.mb),.map (some n2.mp),.map (some n2.mr)]::Υ (a0 .i64) 1 kR Kk Kl ks::ew F2 (GO n2.Ζ k)::τ cu cc n2.mb n2.δ::ew F7 n2.δ::τ cu cg n2.mp n2.Ζ::τ B7 bE n2.mr (G8 n2.C1)::L) ?_ ?_
  .rcases c1 with J|J
   .refine Ih ?_;intros;exact⟨(),trivial,aA,by exact ag⟩
   .have U:¬p.state=1:=B;refine Ih ?_;intros;exact⟨(),trivial,aA,by exact ag⟩
  rintro _ _;have i2:p.m.Η.length=p.Η.length:=ah _;have j1:=d1.Η;have e6:=λj=>sf (cB:=p.state) (Φ:=p.Φ) (G:=G) hs a3 c5 (os:=p.m.Η.take j) (S:=S2) (c:=ζ) d3.hin.Ik (by have:=jd p.m.Η j;omega) (λo ho=>⟨d1.ow o (cl ho),hw.ts o (cl ho)⟩);refine Ih ?_;intros;refine Δ.loop (α:=Nat×List D5×OA×Nat×List JQ) (λg=>∃mm,Mr (Iz d k p.state p.Φ G) p.m.Η S2 g.1 g.2.1 mm/\g.2.2.2.2.map (·.m)=b4.map (·.m)++mm) (λg=>[(0,al nb),(1,E G),(5,ae g.2.2.1 g.2.2.2.2.length g.2.2.2.1),(7,E k),(10,.pointer (some ⟨p.b,0,none⟩)),(14,ae Kk ks.length Kl),(15,E (ks.length:Int)),(16,E (i:Int)),(69,E (p.Η.length:Int)),(70,E (g.1:Int))]) (λg=>obj p.b JA [E p.state,E p.Φ,ae p.ad g.2.1.length p.fe]::Υ cY 8 Jv p.ad p.fe g.2.1::Ρ G6 g.2.1::Υ aV 3 hy g.2.2.1 g.2.2.2.1 g.2.2.2.2::Ρ cV g.2.2.2.2::aN lb (Is (Iz d k p.state p.Φ G) (p.m.Η.take g.1) S2).2.2::obj nb B2 [al lb,E d,E Q,E n2.ω,E n2.hl,.map (some n2.mb),.map (some n2.mp),.map (some n2.mr)]::Υ (a0 .i64) 1 kR Kk Kl ks::ew F2 (GO n2.Ζ k)::τ cu cc n2.mb n2.δ::ew F7 n2.δ::τ cu cg n2.mp n2.Ζ::τ B7 bE n2.mr (G8 n2.C1)::L) (λg=>p.Η.length - g.1) (0,p.Η,b1,r,b4) ⟨[],Mr.zero,(aJ _).symm⟩ aA ?_ ?_
  .dsimp only;rw[aU];simp only[Is];exact ag
  rintro⟨j,ys,b2,a5,b0⟩ ⟨mm,hI,a7⟩;dsimp only at hI a7 ⊢;have k1:=hI.le;have k5:=hI.len;obtain⟨r1,r2,r3,r4,r5,r6⟩:=e6 j
  have i0:b0.length<=600330100:=by
   have e1:=congrArg List.length a7;have e2:=hI.T;rw[ah,aq,ah,e2] at e1;rw[aK] at r6;omega
  by_cases h8:j<p.Η.length
  case neg =>
   have d2:p.m.Η.take j=p.m.Η:=aG B;have e5:=hI.ow;have f3:=hI.T;rw[d2] at e5 f3;rw[d2];rw[bN B,aJ] at e5;let n3:E0:={ n2 with Ζ:=fc n2.Ζ k (⟨p.b,p.state,p.Φ,ys,p.ad,p.fe⟩:H7) }
   have i1:n3.m={ n2.m with Ζ:=fc n2.m.Ζ k ⟨p.state,p.Φ,(Is (Iz d k p.state p.Φ G) p.m.Η S2).2.1⟩ }:=by
    refine(ma n2 k (⟨p.b,p.state,p.Φ,ys,p.ad,p.fe⟩:H7)).trans ?_;rw[<-e5];rfl
   refine Ih ?_;intros;refine⟨(i+1,n3,b2,a5,b0),⟨by dsimp only;omega,by rw[I];exact i1,?_⟩,by dsimp only;omega,?_,?_⟩
   .dsimp only;rw[I,a7,a6,f3,ax]
   .dsimp only;rw[bC i];exact aA
   .rw[I];dsimp only;refine A.trans ?_ (A.c7 (A.c7 (A.c7 (iB d0 hg (⟨p.b,p.state,p.Φ,ys,p.ad,p.fe⟩:H7) rfl))));simp only[Ku,J2,cw];exact ag
  have a2:j<p.m.Η.length:=B;have b9:(j:Int).toNat=j:=B;have f1:=hI.at a2;have e0:ys[j]!∈ys:=bA B;have g0:Ma ys[j]!.m:=by rw[f1];exact d1.ow _ (bA a2)
  have a4:=oB (Iz d k p.state p.Φ G) p.m.Η S2 a2;generalize hR:Is (Iz d k p.state p.Φ G) (p.m.Η.take j) S2=Α at *
  have e1:cy (p.m.Η.take (j+1))=cy (p.m.Η.take j)+eU p.m.Η[j]!:=by
   unfold cy;rw[av a2,aL,ej,C5 a2];simp only[aF,aY,bZ,List.sum_nil,dW]
  have e2:=jd p.m.Η (j+1);have f7:∀{o' : D5} {m2:List xs},m2=(Iz d k p.state p.Φ G ys[j]!.m Α.2.2).1->o'.m=(Iz d k p.state p.Φ G ys[j]!.m Α.2.2).2.1->Mr (Iz d k p.state p.Φ G) p.m.Η S2 (j+1) (ys.set j o') (mm++m2):=λJ U=>hI.next a2 (by rw[hR];exact J) (by rw[hR];exact U);have c6:∀{m2:List xs},m2=(Iz d k p.state p.Φ G ys[j]!.m Α.2.2).1->ys[j]!.m=(Iz d k p.state p.Φ G ys[j]!.m Α.2.2).2.1->Mr (Iz d k p.state p.Φ G) p.m.Η S2 (j+1) ys (mm++m2):=λJ U=>hI.keep a2 (by rw[hR];exact J) (by rw[hR];exact U);rw[<-f1] at a4 e1;refine Δ.c9 (nB (M:=p.ad) (D:=ys) B) λe9=>?_;by_cases h0:ys[j]!.state=0
  .have c2:Iz d k p.state p.Φ G ys[j]!.m Α.2.2=dE d k p.state p.Φ G ys[j]!.m Α.2.2:=Ω (B:¬ys[j]!.state=1)
   have h6:ys[j]!.state=0->gm Α.2.2+ys[j]!.bB.m.am.length<=2000:=λq=>by
    have e3:eU ys[j]!.m=ys[j]!.bB.m.am.length:=μ q;omega
   rw[c2] at a4 f7;refine Ih ?_;intros;rw[b9];refine Ih ?_;intros;rw[b9];refine R.υ (Y:=obj nb B2 (cw lb d Q n2.ω n2.hl n2.mb n2.mp n2.mr)::obj p.b JA (J2 ⟨p.b,p.state,p.Φ,ys,p.ad,p.fe⟩)::Υ cY 8 Jv p.ad p.fe ys::Ρ G6 ys::aN lb Α.2.2::(Υ aV 3 hy b2 a5 b0::Ρ cV b0::Υ (a0 .i64) 1 kR Kk Kl ks::ew F2 (GO n2.Ζ k)::τ cu cc n2.mb n2.δ::ew F7 n2.δ::τ cu cg n2.mp n2.Ζ::τ B7 bE n2.mr (G8 n2.C1)::L)) (by simp only[cw,J2];exact ag) ?_;refine R.ca (lB nb lb d Q n2.ω n2.hl n2.mb n2.mp n2.mr ζ _ Α.2.2 r1 k f0 p.b p.state p.Φ p.ad p.fe e9 ys j B g0 G h6) ?_;rintro _ _⟨i8,g5,b7,o2,rfl,g3,rfl⟩;have g2:b7.map (·.m)=(dE d k p.state p.Φ G ys[j]!.m Α.2.2).1:=congrArg (·.1) g3;have i6:o2.m=(dE d k p.state p.Φ G ys[j]!.m Α.2.2).2.1:=congrArg (·.2.1) g3
   have k2:b7.length<=1:=by
    have J:=congrArg List.length g2;rw[ah] at J;rw[J];exact kE
   simp only[cw,J2];refine Ih ?_;intros;refine R.ef (Ef.c9 (Β:=aV) (ys:=b7) rfl rfl rfl rfl rfl (λe _=>dG e) B B) ac ?_;rintro _ _⟨b8,a9,rfl,rfl⟩;refine Ih ?_;intros;refine⟨(j+1,ys.set j o2,b8,a9,b0++b7),⟨mm++b7.map (·.m),f7 g2 i6,by rw[aL,a7,ax]⟩,by dsimp only;omega,?_,?_⟩
   .dsimp only;rw[bC j];exact aA
   .dsimp only;rw[a4,bq];dsimp only;refine(A.at (Μ:=Ρ cV b7) (A.refl _)).trans ?_;refine(A.at (Μ:=Ρ cV b0) (A.refl _)).trans ?_;refine(A.c9 (f:=cV) ed).trans ?_;exact ag
  by_cases J:ys[j]!.state=1
  .have c2:Iz d k p.state p.Φ G ys[j]!.m Α.2.2=([gW d k ys[j]!.m],ys[j]!.m,Α.2.2):=μ (show ys[j]!.m.state=1 from J);rw[c2] at a4 c6;refine Ih ?_;intros;rw[b9];refine Ih ?_;intros;rw[b9];refine R.υ (A.at (Μ:=Ρ G6 ys) (A.d8 (f:=G6) e0)) ?_;refine R.υ (Y:=obj nb B2 (cw lb d Q n2.ω n2.hl n2.mb n2.mp n2.mr)::G6 ys[j]!::(obj p.b JA [E p.state,E p.Φ,ae p.ad ys.length p.fe]::Υ cY 8 Jv p.ad p.fe ys::Ρ G6 ys::aN lb Α.2.2::Υ aV 3 hy b2 a5 b0::Ρ cV b0::Υ (a0 .i64) 1 kR Kk Kl ks::ew F2 (GO n2.Ζ k)::τ cu cc n2.mb n2.δ::ew F7 n2.δ::τ cu cg n2.mp n2.Ζ::τ B7 bE n2.mr (G8 n2.C1)::L)) (by simp only[cw];exact ag) ?_;refine R.ca (nW nb lb d Q n2.ω n2.hl n2.mb n2.mp n2.mr k f0 p.ad e9 ys j B ys[j]! rfl g0) ?_;rintro _ _⟨x,rfl,K,rfl⟩;simp only[cw];refine Ih ?_;intros;refine R.ef (Ef.a8 (Β:=aV) (e:=x) rfl rfl rfl rfl rfl aS (dG _) B B) ac ?_;rintro _ _⟨b8,a9,rfl,rfl⟩;refine Ih ?_;intros;refine⟨(j+1,ys,b8,a9,b0++[x]),⟨mm++[gW d k ys[j]!.m],c6 rfl rfl,by rw[aL,a7,ax,aF,aY,K]⟩,by dsimp only;omega,?_,?_⟩
   .dsimp only;rw[bC j];exact aA
   .dsimp only;rw[a4];dsimp only;refine(A.at (Μ:=cV x) (A.d7 (f:=cV) ed)).trans ?_;refine(A.at (Μ:=Ρ cV [x]) (A.refl _)).trans ?_;refine(A.at (Μ:=Ρ cV b0) (A.refl _)).trans ?_;refine(A.c9 (f:=cV) ed).trans ?_;exact ag
  have c2:Iz d k p.state p.Φ G ys[j]!.m Α.2.2=([],ys[j]!.m,Α.2.2):=by
   unfold Iz;rw[Ω (show ¬ys[j]!.m.state=1 from J),ja h0]
  rw[c2] at a4 c6;refine Ih ?_;intros;rw[b9];refine Ih ?_;intros;refine⟨(j+1,ys,b2,a5,b0),⟨mm++[],c6 rfl rfl,by rw[aJ];exact a7⟩,by dsimp only;omega,?_,?_⟩
  .dsimp only;rw[bC j];exact aA
  .dsimp only;rw[a4];exact ag
end
section
open Go.V
abbrev jt:Nat:=65
def On(x:Int×Int):Prop:=(0<=x.1/\x.1<=3)/\1<=x.2/\x.2<=12
structure QC (n:Int) (l:G7):Prop where
 d:0<=l.d/\l.d<n
 fr : -1<=l.fr/\l.fr<=3
 ts:0<=l.ts/\l.ts<=n
 to:1<=l.to/\l.to<=4
 len:1<=l.am.length/\l.am.length<=3
 am:∀x∈l.am,On x
attribute [local irreducible] Δ R GP Ο h2 GF GE O Ef A8 A CB GB V.Enters bF Ix
def lQ{L:LH}(n:Int)(hn:0<=n/\n<100000) :
  Λ Ε 68 #[E n] L (λv Y=>∃M cap am,v=ae M am.length cap/\((1<=am.length/\am.length<=3)/\∀x∈am,On x)/\Y = Υ dH 2 Lz M cap am::L):=by
 have J:(0<=n % 4/\n % 4<=3)/\(0<=n / 4 % 4/\n / 4 % 4<=3)/\(0<=n / 16 % 12/\n / 16 % 12<=11)/\(0<=n / 192 % 6/\n / 192 % 6<=5):=B;obtain⟨g1,g2,g3,g4⟩:=J;refine Λ.bd ?_;repeat first|refine Δ.sm 4 ?_|refine cR ?_|intro
 rename_i b5;generalize n % 4=a at *;generalize n / 4 % 4=b at *;generalize n / 16 % 12=c at *;refine Δ.υ (Y:=Υ dH 2 Lz (some ⟨b5,0,none⟩) 1 [(a,1+c)]::L) ((A.at (Μ:=obj b5 Lz [E a,E (1+c)]) (A.d9 (Β:=dH) (sz:=2) (D:=[(a,1+c)]) (n:=1) rfl rfl (by intro x K;rfl) ac)).trans ag) ?_;refine Δ.c7 (α:=OA×Nat×List (Int×Int)) (λg=>(1<=g.2.2.length/\g.2.2.length<=2)/\∀x∈g.2.2,On x) (λg=>[(0,E n),(3,E a),(4,E b),(5,ae g.1 g.2.2.length g.2.1)]) (λg=>Υ dH 2 Lz g.1 g.2.1 g.2.2::L) ?_ ?_
 .have a6:([(a,1+c)]:List (Int×Int)).length=1:=rfl;have a4:∀x∈[(a,1+c)],On x:=λx K=>by rw[D6 K];unfold On;dsimp only;omega
  by_cases hb:b>a
  .refine Ih ?_;intros;refine R.ef (Ef.a8 (Β:=dH) (e:=(b,1+n / 192 % 6)) rfl rfl rfl rfl rfl aS (kO _) B B) ac ?_;rintro _ _⟨a2,r,rfl,rfl⟩;refine Ih ?_;intros;refine⟨(a2,r,[(a,1+c)]++[(b,1+n / 192 % 6)]),⟨⟨by simp,by simp⟩,λx K=>?_⟩,aA,by exact ag⟩;rcases It K with K|K
   .exact a4 x K
   .rw[D6 K];unfold On;dsimp only;omega
  .refine Ih ?_;intros;exact⟨(some ⟨b5,0,none⟩,1,[(a,1+c)]),⟨⟨au _,by simp⟩,a4⟩,aA,by exact ag⟩
 rintro⟨M,cap,am⟩ ⟨a3,I⟩;dsimp only at a3 I ⊢;by_cases a5:n % 97=0
 .refine Ih ?_;intros;refine R.ef (Ef.a8 (Β:=dH) (e:=(a,1)) rfl rfl rfl rfl rfl aS (kO _) B B) ac ?_;rintro _ _⟨a2,r,rfl,rfl⟩;refine Ih ?_;intros;refine KX.a8 aw ag ⟨a2,r,am++[(a,1)],rfl,⟨by simp;omega,λx K=>?_⟩,rfl⟩;rcases It K with K|K
  .exact I x K
  .rw[D6 K];unfold On;dsimp only;omega
 .refine Ih ?_;intros;exact KX.a8 aw (A.refl _) ⟨M,cap,am,rfl,⟨B,I⟩,rfl⟩
end
section
open Go.V
attribute [local irreducible] Δ R GP Ο h2 GF GE O Ef A8 A CB GB V.Enters bF Ix
def ns{L:LH}(n:Int)(hn:1<=n/\n<=12)(M:OA)(c:Nat)(l:List Int)[hrd:C7 L M Int (a0 .i64) 1 l](K:∀x∈l,id x)(at_:Int)(b8:0<=at_/\at_<=1000000) :
  Λ Ε 26 #[E n,ae M l.length c,E at_] L (λv Y=>∃b1 a5 ls,v=ae b1 ls.length a5/\((1<=ls.length/\ls.length<=4)/\∀x∈ls,QC n x.m)/\Y = Υ aW 5 jt b1 a5 ls::Ρ gy ls::L):=by
 refine Λ.bd ?_;refine Ih ?_;intros;refine Δ.loop (α:=Nat×OA×Nat×List IL) (λg=>(g.1<=4/\g.2.2.2.length=g.1)/\∀x∈g.2.2.2,QC n x.m) (λg=>[(0,E n),(1,ae M l.length c),(2,E at_),(7,ae g.2.1 g.2.2.2.length g.2.2.1),(8,E (g.1:Int))]) (λg=>Υ aW 5 jt g.2.1 g.2.2.1 g.2.2.2::Ρ gy g.2.2.2::L) (λg=>4 - g.1) (0,none,0,[]) ⟨⟨aC _,rfl⟩,λx h=>iW h aD⟩ aA ?_ ?_
 .dsimp only;refine(A.a8 gy).trans ((A.c8 aW 5 jt).trans ?_);exact ag
 rintro⟨i,a4,a2,zs⟩ ⟨⟨hi,b2⟩,hz⟩;dsimp only at hi b2 hz ⊢;refine Ih ?_;intros;refine R.ca (jx M l.length c l rfl K at_ 4 ac) ?_;rintro _ _⟨k,rfl,hk,rfl⟩;by_cases b9:(i:Int)<=k
 case neg =>
  refine Ih ?_;intros;refine KX.a8 aw (A.refl _) ⟨a4,a2,zs,rfl,⟨⟨B,B⟩,hz⟩,rfl⟩
 refine Ih ?_;intros;refine R.ca (jx M l.length c l rfl K (at_+3*(i:Int)+1) 100000 ac) ?_;rintro _ _⟨p,rfl,hp,rfl⟩;refine Ih ?_;intros;refine R.ca (jx M l.length c l rfl K (at_+3*(i:Int)+2) 100000 ac) ?_;rintro _ _⟨m,rfl,hm,rfl⟩;have g1:=dz p (B:n≠0);have g2:=cQ p (B:0<n);have g3:=dz m (B:n≠0);have g4:=cQ m (B:0<n);have g5:0<=p / 16 % 3/\p / 16 % 3<=2:=B;have g6:0<=m / 16 % 4/\m / 16 % 4<=3:=B;repeat first|refine Δ.sn 7 ?_|refine cR ?_|intro
 refine Δ.c7 (α:=Nat×OA×Nat×List (Int×Int)) (λg=>(1<=g.2.2.2.length/\g.2.2.2.length<=3)/\∀x∈g.2.2.2,On x) (λg=>[(0,E n),(1,ae M l.length c),(2,E at_),(7,ae a4 zs.length a2),(8,E (i:Int)),(9,E p),(10,E m),(11,.pointer (some ⟨g.1,0,none⟩))]) (λg=>obj g.1 jt [E (p % n),E (1+p / 16 % 3),E (m % n),E (1+m / 16 % 4),ae g.2.1 g.2.2.2.length g.2.2.1]::Υ dH 2 Lz g.2.1 g.2.2.1 g.2.2.2::Υ aW 5 jt a4 a2 zs::Ρ gy zs::L) ?_ ?_
 .refine Δ.d9 mixed Γ ?_;refine GF.H6 (i:=0) rfl Γ (O.move rfl) ac ?_;refine GF.H6 (i:=1) rfl Γ (O.move rfl) ac ?_;refine GF.H6 (i:=2) rfl Γ (O.rem rfl rfl B B) ac ?_;refine GF.H6 (i:=3) rfl Γ (O.move rfl) ac ?_;refine GF.H6 (i:=4) rfl Γ (O.quo rfl rfl B B B) ac ?_;refine GF.H6 (i:=5) rfl Γ (O.rem rfl rfl B B) ac ?_;refine GF.H6 (i:=6) rfl Γ (O.add rfl rfl B B) ac ?_;refine GF.H6 (i:=7) rfl Γ (O.move rfl) ac ?_;refine GF.H6 (i:=8) rfl Γ (O.move rfl) ac ?_;refine GF.H6 (i:=9) rfl Γ (O.rem rfl rfl B B) ac ?_;refine GF.H6 (i:=10) rfl Γ (O.move rfl) ac ?_;refine GF.H6 (i:=11) rfl Γ (O.quo rfl rfl B B B) ac ?_;refine GF.H6 (i:=12) rfl Γ (O.rem rfl rfl B B) ac ?_;refine GF.H6 (i:=13) rfl Γ (O.add rfl rfl B B) ac ?_;refine GF.H6 (i:=14) rfl Γ (O.move rfl) ac ?_;refine GF.H6 (i:=15) rfl Γ (O.move rfl) ac ?_;refine GF.H6 (i:=16) rfl Γ (O.move rfl) ac ?_;refine GF.H6 (i:=17) rfl Γ (O.mul rfl rfl B B) ac ?_;refine GF.H6 (i:=18) rfl Γ (O.add rfl rfl B B) ac ?_;refine GF.H6 (i:=19) rfl Γ (O.add rfl rfl B B) ac ?_;refine GF.a8 20 23 Γ ?_ ?_
  .refine GE.ef rfl (Ef.d8 (jx M l.length c l rfl K (at_+3*(i:Int)+3) 100000 ac) rfl) ac ?_;rintro _ _⟨q,rfl,hq,rfl⟩;refine⟨ru,?_⟩;refine GF.a8 21 23 Γ ?_ ?_
   .refine GE.ef rfl (Ef.d8 (lQ q hq) rfl) ac ?_;rintro _ _⟨I,r,am,rfl,a6,rfl⟩;refine⟨ru,?_⟩;refine GF.kP [.ev 22,.ef 23,.ef 24] Γ rfl ?_;refine Ih ?_;intros;rename_i a3;exact⟨(a3,I,r,am),a6,aA,by exact ag⟩
   .refine GE.ef rfl Ef.alloc ac ?_;rintro _ _⟨a3,rfl,rfl⟩;refine⟨ru,?_⟩;refine GF.kP [.ef 21,.ev 22,.ef 24] Γ rfl ?_;refine Ih ?_;intros;refine Ο.ca (lQ q hq) ?_;rintro _ _⟨I,r,am,rfl,a6,rfl⟩;refine Ih ?_;intros;exact⟨(a3,I,r,am),a6,aA,by exact ag⟩
  .refine GE.ef rfl Ef.alloc ac ?_;rintro _ _⟨a3,rfl,rfl⟩;refine⟨ru,?_⟩;refine GF.kP [.ef 20,.ef 21,.ev 22,.ef 24] Γ rfl ?_;refine Ih ?_;intros;refine Ο.ca (jx M l.length c l rfl K (at_+3*(i:Int)+3) 100000 ac) ?_;rintro _ _⟨q,rfl,hq,rfl⟩;refine Ih ?_;intros;refine Ο.ca (lQ q hq) ?_;rintro _ _⟨I,r,am,rfl,a6,rfl⟩;refine Ih ?_;intros;exact⟨(a3,I,r,am),a6,aA,by exact ag⟩
 rintro⟨a3,I,r,am⟩ ⟨a7,a9⟩;dsimp only at a7 a9 ⊢;refine Δ.υ (A.at (Μ:=Υ dH 2 Lz I r am) A.JC) ?_;refine Δ.c7 (α:=Int) (λfr=>-1<=fr/\fr<=3) (λfr=>[(0,E n),(1,ae M l.length c),(2,E at_),(7,ae a4 zs.length a2),(8,E (i:Int)),(9,E p),(10,E m),(11,al a3)]) (λfr=>obj a3 jt [E (p % n),E fr,E (m % n),E (1+m / 16 % 4),ae I am.length r]::ε dH 2 I am::Υ aW 5 jt a4 a2 zs::Ρ gy zs::L) ?_ ?_
 .by_cases b7:p % 89=0
  .have g7:0<=p / 89 % 3/\p / 89 % 3<=2:=B;refine Ih ?_;intros;exact⟨p / 89 % 3 - 1,B,aA,by exact ag⟩
  .refine Ih ?_;intros;exact⟨1+p / 16 % 3,B,aA,by exact ag⟩
 rintro fr b4;refine Δ.c7 (α:=Int) (λts=>0<=ts/\ts<=n) (λts=>[(0,E n),(1,ae M l.length c),(2,E at_),(7,ae a4 zs.length a2),(8,E (i:Int)),(9,E p),(10,E m),(11,al a3)]) (λts=>obj a3 jt [E (p % n),E fr,E ts,E (1+m / 16 % 4),ae I am.length r]::ε dH 2 I am::Υ aW 5 jt a4 a2 zs::Ρ gy zs::L) ?_ ?_
 .by_cases b6:m % 83=0
  .refine Ih ?_;intros;exact⟨n,B,aA,by exact ag⟩
  .refine Ih ?_;intros;exact⟨m % n,B,aA,by exact ag⟩
 rintro ts b5;refine Ih ?_;intros;refine R.ef (Ef.a8 (Β:=aW) (e:=(⟨⟨p % n,fr,ts,1+m / 16 % 4,am⟩,I,r⟩:IL)) rfl rfl rfl rfl rfl aS (jZ _) B B) ac ?_;rintro _ _⟨b3,b0,rfl,rfl⟩;refine Ih ?_;intros;refine⟨(i+1,b3,b0,zs++[⟨⟨p % n,fr,ts,1+m / 16 % 4,am⟩,I,r⟩]),⟨⟨by dsimp only;omega,by simp[b2]⟩,λx K=>?_⟩,by dsimp only;omega,?_,?_⟩
 .rcases It K with K|K
  .exact hz x K
  .rw[D6 K];exact⟨⟨g1,g2⟩,b4,b5,by dsimp only;omega,a7,a9⟩
 .dsimp only;rw[bC i];exact aA
 .dsimp only;refine(A.at (Μ:=ε dH 2 I am) (A.d7 (f:=gy) (x:=(⟨⟨p % n,fr,ts,1+m / 16 % 4,am⟩,I,r⟩:IL)) eD)).trans ?_;refine(A.at (Μ:=Ρ gy [⟨⟨p % n,fr,ts,1+m / 16 % 4,am⟩,I,r⟩]) (A.refl _)).trans ?_;refine(A.at (Μ:=Ρ gy zs) (A.refl _)).trans ?_;refine(A.c9 (f:=gy) eD).trans ?_;exact ag
