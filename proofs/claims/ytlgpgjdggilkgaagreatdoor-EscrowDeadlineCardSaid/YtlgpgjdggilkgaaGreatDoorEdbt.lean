/- Lemmas. -/
import Derived.Test.YtlgpgjdggilkgaaGreatDoorEdbs
import Derived.Test.YtlgpgjdggilkgaaGreatDoorRows
import Derived.LaidMore
import Derived.Stop.Joined
set_option linter.all false
set_option maxHeartbeats 16000000
namespace Go.Proofs.YtlgpgjdggilkgaaGreatDoor
section
open Go.V
instance:Wg Λ 73 [false,false,false]:=⟨Θ,Θ,Θ,Θ⟩
def T7:Ph:=⟨4,0,0,[],none,0,0⟩
def HB{n:Int}(h:0<n):T0 n T7:=⟨by decide,⟨bE 0,h⟩,by decide,by decide,λ_=>bE 0,aD _,λ_ h=>iJ h aH⟩
def Jp{n:Int}{W:jA}:(Ox n T7 W).2=({ W with B:=W.B+0 }:jA).send 0 (cU 0 (W.B+0) (W.nd 0).1 (W.nd 0).2):=by
 unfold Ox;rw[Ο (show ¬T7.Ζ=0 by decide),Ω (show T7.Ζ=4 from rfl)];rfl
def ZQ{L:Ι}:E L (UY T7::L):=(E.c7 ms).trans ((E.f7 aZ 5 none).trans (E.g8 (cT _ _ _ _) (eV fx)))
attribute [local irreducible] Β Y GP δ vi GF GE Z Ef C0 E CB GB V.Enters bH K6
abbrev Eo:=Yt [.ev 8]
def bj{φ ψ:Prop}(k:ψ)(h:Hid ψ->φ:=by intro k;(with_reducible apply Β.a8);first|refine Β.dr 197 31 Eo (Hid.out k)):φ:=h ⟨k⟩
def XF{φ ψ:Prop}(k:ψ)(h:Hid ψ->φ:=by intro k;(repeat (first|refine ab ?_|intro B8|refine bj ?_));(repeat revert B8);exact Hid.out k):φ:=h ⟨k⟩
def ql{L:Ι}(ad:OA)(m c:Nat)(G:List Int)[hrd:F5 L ad Int (eU .i64) 1 G](hm:m=G.length)(u1:m<=9223372036854775807)(hc:m<=c)(M:∀x∈G,xs x)(f1:OA)(m1 c1:Nat)(ys:List Int)[r6:F5 L f1 Int (eU .i64) 1 ys](h4:m1=ys.length)(p1:m1<=9223372036854775807)(s9:m1<=c1)(U:∀x∈ys,xs x)(a5:Int)(hs:xs a5)(wait:Int)(s2:xs wait) :
  Υ Λ 5 #[ae ad m c,ae f1 m1 c1,K a5,K wait] (co::L) (F7 (.bool true) L):=by
 subst hm h4;refine Υ.bd ?_;refine XF ?_;intros;refine Y.ca (pW a5 2 hs ac ac) ?_;rintro _ _⟨p,rfl,⟨p4,q0⟩,rfl⟩;refine XF ?_;intros;obtain⟨n,hn⟩:∃n:Int,2+p=n:=⟨_,rfl⟩;rw[hn];have u2:2<=n/\n<=3:=D;have a6:1<=n/\n<=12:=D;have d3:1<=n/\n<=3:=D;refine XF ?_;intros;refine Y.ca (uc n a6 ad G.length c G rfl hc M) ?_;rintro _ _⟨wb,W0,rfl,b0,rfl⟩;have e8:=b0.wd a6;have l4:=b0.sc d3;have j0:Sy W0:=λi hi=>(b0.sd i hi).d;have k0:(W0.cO.length:Int)=n:=b0.len;clear hn p4 q0 hs
 obtain⟨c2,f4,c5,c4⟩:RM (ey W0.cO[0]!.S) W0.cO[0]!.S/\ey W0.cO[0]!.S<=8/\pY W0.cO[0]!.S.ξ W0.cO[0]!.S.Μ/\W0.cO[0]!.S.Μ.length<=100000:=by
  have i4:=(b0.sd 0 D).sp;have o4:=i4.k;obtain⟨r1,r2,r3,r4⟩:=NQ.seen D i4.J1 D;obtain⟨_,_,i3⟩:=i4.J1.rep.all D D;have hf:=r1.Μ;exact⟨r1,o4,r2,D⟩
 have i6:∀x,XP W0.m 0 0 x=0:=λx=>by
  obtain⟨_,i2,_⟩:=(b0.sd 0 D).sp.J1.rep.all D (by have:=(b0.sd 0 D).sp.k;omega);show aW ((W0.m.nd 0).2.ξ 0 x)=0;rw[F6.a8 (W:=W0) (k:=0) D rfl];show aW (W0.cO[0]!.S.ξ 0 x)=0;rw[i2.US];rfl
 simp only[F2,M0];refine XF ?_;intros;refine Y.ca (DB n a6 f1 c1 ys U 0 ac) ?_;rintro _ _⟨bD,id,ls,rfl,⟨t9,k3⟩,rfl⟩;refine XF ?_;intros;refine Y.ca (pW wait 6 s2 ac ac) ?_;rintro _ _⟨k,rfl,⟨o3,t3⟩,rfl⟩;obtain⟨s,e6⟩:∃s,W0.cO[0]! = s:=⟨_,rfl⟩;rw[e6] at c2 f4 c5 c4;have o5:(W0.cO.map (·.lb)).length=W0.cO.length:=ak _
 have g6:(W0.cO.map (·.lb))[(0:Int).toNat]! = s.lb:=by
  rw[<-e6];exact eZ (f:=λs:K2=>s.lb) D
 refine Y.cM (E.at (Φ:=μ aZ 5 lF bD id ls) E.NZ) ?_;refine XF ?_;intros;rw[g6];refine Y.cM (Ε:=F2 wb n W0 (τ aZ 5 bD ls::η ms ls::co::L)) (by simp only[F2,M0];exact aj) ?_;refine Y.cM (Cg (k:=0) D e6) ?_;refine Y.ca (qP s.lb s.S (ey s.S) c2 D c5 c4) ?_;rintro _ _⟨a4,b9,A,rfl,⟨l6,m2⟩,rfl⟩;refine Y.cM (Ε:=τ fS 3 a4 A::F2 wb n W0 (τ aZ 5 bD ls::η ms ls::co::L)) (E.NZ.trans (E.a8 (Ch (k:=0) D e6))) ?_;simp only[F2,M0];refine XF ?_;intros;have hO:T0 n (⟨0,0,0,ls,bD,id,k⟩:Ph):=⟨by show(0:Int)<=0/\(0:Int)<=5;decide,⟨bE 0,by dsimp only;omega⟩,by show(0:Int)<=0/\(0:Int)<1073741824;decide,by dsimp only;omega,λq=>iJ (show(0:Int)=4 from q) ac,by dsimp only;omega,k3⟩;refine Y.cM (Ε:=UY (⟨0,0,0,ls,bD,id,k⟩:Ph)::F2 wb n W0 (τ aZ 5 bD ls::η ms ls::τ fS 3 a4 A::co::L)) ?_ ?_
 .refine(E.at (Φ:=τ aZ 5 bD ls) (E.dup (cT aZ 5 bD ls).QM)).trans ?_;refine(E.at (Φ:=η ms ls) (E.dup (eV fx).QM)).trans ?_;refine E.trans (hx:=τ aZ 5 bD ls::η ms ls::F2 wb n W0 (τ aZ 5 bD ls::η ms ls::τ fS 3 a4 A::co::L)) (by simp only[F2,M0];exact aj) ?_;exact E.g8 (cT _ _ _ _) (eV fx)
 have d0:=b0.ZP d3 (o:=(⟨0,0,0,ls,bD,id,k⟩:Ph)) rfl rfl;have c3:=Hb e8 hO (λq=>iJ (show(0:Int)=5 from q) ac) ac ac (by have:=e8.B;omega) l4 ac;have e9:=tD e8 hO ac ac;refine Y.ca (CU wb n W0 (⟨0,0,0,ls,bD,id,k⟩:Ph) e8 hO j0 ac ac ac ac) ?_;generalize Ox n (⟨0,0,0,ls,bD,id,k⟩:Ph) W0.m=H7 at *;rintro _ _⟨W1,rfl,⟨h4,h9⟩,rfl⟩;have m4:=h9.d j0;rw[<-h4] at d0 c3 e9;obtain⟨n1,n4⟩:=d0;simp only[F2,M0];by_cases he:H7.1.2=0
 case neg =>
  obtain⟨e1,e2⟩:=n1 he;have e3:W1.x5.length=0:=by rw[<-ak (f:=λx:N7=>x.m)];exact congrArg List.length e1
  have e4:W1.h1.length=0:=congrArg List.length e2;refine XF ?_;intros;refine Y.cM (Ε:=co::L) aj ?_;refine Y.cr (uA) ?_;refine XF ?_;intros;exact KX.a8 aC E.drop ⟨rfl,rfl⟩
 obtain⟨g5,j3,i5,l1⟩:=n4 he;rcases c3 with⟨_,_,c3⟩|⟨q,_⟩
 case inr=>exact iJ ⟨rfl,he⟩ q
 have s0:W0.m.B=0:=b0.B;rw[s0,Int.zero_add,Ω o3,av] at c3;generalize H7.1.1=r at *
 have k1:(W1.cO.length:Int)=n:=by
  have q:=e9.len;simp only[F6.m,ak] at q;exact q
 have J:=c3.first e9 g5 j3 l1
 have g4:=so (n:=n) (ls:=ls.map (·.m)) (λl T=>by
  obtain⟨z,hz,rfl⟩:=H8 T;exact(k3 z hz).d) D (12 - n.toNat)
 rw[show n.toNat+(12 - n.toNat)=12 by omega] at g4;refine XF ?_;intros;refine Y.ca (yi bD id ls D) ?_;rintro _ _⟨M4,OT,rfl,rfl⟩;rw[g4];obtain⟨G0,c2⟩:∃G0,bL (ls.map (·.m)) n.toNat=G0:=⟨_,rfl⟩;rw[c2] at J ⊢;have s7:G0.length<=12:=by rw[<-c2];have:=jx (ls.map (·.m)) n.toNat;omega
 obtain⟨s1,b2⟩:∃s,W1.cO[0]! = s:=⟨_,rfl⟩;have p2:(W1.cO.map (·.nb)).length=W1.cO.length:=ak _
 have h5:(W1.cO.map (·.nb))[(0:Int).toNat]! = s1.nb:=by
  rw[<-b2];exact eZ (f:=λs:K2=>s.nb) D
 have d6:W1.m.nf 0=s1.n.m:=Ez D b2;rw[d6] at J;refine XF ?_;intros;rw[h5];refine Y.cM (Ε:=F2 wb n W1 (μ (eU .i64) 1 C3 M4 OT G0::τ fS 3 a4 A::co::L)) (by simp only[F2,M0];exact aj) ?_;refine Y.cM (qo (k:=0) D b2) ?_;refine Y.cr (lH s1.nb s1.lb s1.d n s1.n r) ?_;obtain⟨fs,j4⟩:∃fs,dO s1.n.m r=fs:=⟨_,rfl⟩;rw[j4] at J ⊢;refine Y.cM (Ε:=F2 wb n W1 (μ (eU .i64) 1 C3 M4 OT G0::τ fS 3 a4 A::co::L)) (tR (k:=0) D b2) ?_;simp only[F2,M0];repeat first|refine Β.sm 14 ?_|refine dz ?_|intro _|refine bj ?_
 refine Β.c7 (α:=Unit) (λ_=>True) (λ_=>[(9,K n),(10,ay wb),(13,K k),(14,ae a4 A.length b9),(15,K r),(17,ae W1.gi W1.x5.length W1.iM),(19,K fs)]) (λ_=>F2 wb n W1 (τ fS 3 a4 A::co::L)) ?_ ?_
 .by_cases I:G0.length=1
  .by_cases h0:G0[(0:Int).toNat]! = 0
   .have hq:G0=[0]:=by
     match G0,I,h0 with
     | [a],_,h0=>rw[show a=0 from h0]
    have t0:=J.1 hq;refine XF ?_;intros;exact⟨(),trivial,aG,by simp only[F2,M0];exact aj⟩
   .refine XF ?_;intros;exact⟨(),trivial,aG,by simp only[F2,M0];exact aj⟩
  .by_cases Q:1<G0.length
   .have t1:=J.2.1 Q;refine XF ?_;intros;exact⟨(),trivial,aG,by simp only[F2,M0];exact aj⟩
   .refine XF ?_;intros;exact⟨(),trivial,aG,by simp only[F2,M0];exact aj⟩
 rintro _ _;clear c2 g4;simp only[F2,M0];refine XF ?_;intros;obtain⟨W2,g1⟩:∃W2:F6,W2={ W1 with x5:=[],gi:=none,iM:=0,B:=k+1 }:=⟨_,rfl⟩;have k4:W2.m={ W1.m with O:=[],B:=k+1 }:=by rw[g1];rfl
 have a3 : F1 n 1 32 600000000 7 W1.m:=e9
 have i8:F1 n 1 32 600000000 7 W2.m:=by
  rw[k4];exact⟨a3.MY,a3.len,a3.nd,λm hm=>iJ hm aH,aD _,by dsimp only;omega,a3.il⟩
 have j1:Sy W2:=by rw[g1];exact m4
 refine Y.cM (Ε:=UY T7::F2 wb n W2 (Ou be 3 B2 W1.gi W1.iM W1.x5::η gO W1.x5::τ fS 3 a4 A::co::L)) ?_ ?_
 .rw[g1];refine ZQ.trans ((E.m5 be 3 B2).trans ((E.c7 gO).trans ?_));simp only[F2,M0];exact aj
 refine Y.ca (CU wb n W2 T7 i8 (HB D) j1 ac ac ac ac) ?_;rintro _ _⟨W3,rfl,⟨k5,i0⟩,rfl⟩;have n0:=i0.d j1;have a9:=tD i8 (HB (D:0<n)) ac ac;rw[<-k5] at a9;obtain⟨Δ,hr⟩:∃Δ,cU 0 (k+1) (W1.m.nd 0).1 (W1.m.nd 0).2=Δ:=⟨_,rfl⟩
 have f0:W3.m={ D8:=W1.m.D8.set 0 (Δ.2.1,Δ.2.2),O:=[]++Δ.1,B:=k+1,h1:=W1.m.h1 }:=by
  rw[k5,Jp,k4,<-hr];simp only[ed];rfl
 have t5:=F6.c8 a9;have t4:=F6.c8 a3;simp only[F2,M0];refine XF ?_;intros;refine Y.ef (Ef.j6 (Η:=be) (ys:=W1.x5) rfl rfl rfl rfl rfl (λe _=>ec e) D D) ac ?_;rintro _ _⟨i7,e7,rfl,rfl⟩;refine XF ?_;intros;obtain⟨W4,g2⟩:∃W4:F6,W4={ W3 with x5:=W3.x5++W1.x5,gi:=i7,iM:=e7 }:=⟨_,rfl⟩
 have d2:W4.m={ W3.m with O:=W3.m.O++W1.m.O }:=by
  rw[g2];show jA.mk _ ((W3.x5++W1.x5).map _) _ _=_;rw[aQ];rfl
 have f5:F1 n 2 56 1800000000 14 W1.m:=a3.mono ac ac ac ac
 have i9:F1 n 2 56 1800000000 14 W4.m:=by
  rw[d2];refine⟨a9.MY,a9.len,a9.nd,λm hm=>(J4 hm).elim (a9.O m) (a3.O m),?_,a9.B,a9.il⟩;dsimp only;rw[aA];have e3:=a9.ml;have e1:=a3.ml;omega
 have j2:Sy W4:=by rw[g2];exact n0
 obtain⟨b7,c0⟩:=c3.late f5 g5 j3 l1 i6 (W4:=W4.m) (by rw[i5];dsimp only;omega) oT (by rw[d2,f0,<-hr]) (by rw[d2,f0]) (by rw[d2,f0,<-hr];exact fC) (by rw[d2,f0];exact g5) i9 ac ac;refine Y.cM (Ε:=F2 wb n W4 (τ fS 3 a4 A::co::L)) ?_ ?_
 .rw[g2];refine(E.at (Φ:=η gO W1.x5) (E.refl _)).trans ((E.at (Φ:=η gO W3.x5) (E.refl _)).trans ?_);refine(E.c9 (f:=gO) fj).trans ?_;simp only[F2,M0];exact aj
 refine Y.ca (rX wb n W4 j2 4 ac (ο:=1800000000+7300000000*4) (an:=14) ac (i9.mono ac ac ac (ax _)) b7) ?_;rintro _ _⟨W5,rfl,⟨k6,i1⟩,rfl⟩;have s8:=i1.d j2
 have f6:F1 n 63 1900 (1800000000+7300000000*4) 14 W5.m:=by
  rw[k6];exact(b7 3 ac).2 400 (ax _)
 rw[<-k6] at c0;simp only[F2,M0];have k2:(W5.cO.length:Int)=n:=(F6.c8 f6).1;have c6:=f6.at (D:0<=(0:Int)/\(0:Int)<n);obtain⟨s5,a2⟩:∃s,W5.cO[0]! = s:=⟨_,rfl⟩;have p3:(W5.cO.map (·.nb)).length=W5.cO.length:=ak _;have p0:(W5.cO.map (·.lb)).length=W5.cO.length:=ak _
 have d4:(W5.cO.map (·.nb))[(0:Int).toNat]! = s5.nb:=by
  rw[<-a2];exact eZ (f:=λs:K2=>s.nb) D
 have g7:(W5.cO.map (·.lb))[(0:Int).toNat]! = s5.lb:=by
  rw[<-a2];exact eZ (f:=λs:K2=>s.lb) D
 have e0:W5.m.nf 0=s5.n.m:=Ez D a2;have d5:W5.m.nd 0=(s5.n.m,s5.S):=F6.a8 D a2;have b1:=c0.fin;have a7:=c0.ZO;rw[e0] at b1 a7;rw[d5] at a7 c6;rw[d6,j4] at b1;dsimp only at a7;have g3:=c6.bd;dsimp only at g3
 obtain⟨l5,f3,f2⟩:RM (ey s5.S) s5.S/\pY s5.S.ξ s5.S.Μ/\s5.S.Μ.length<=100000:=by
  obtain⟨r1,r2,r3,r4⟩:=NQ.seen D c6.a.hin.J1 oT;have hf:=c0.fl;rw[d5] at hf;dsimp only at hf;exact⟨r1,r2,D⟩
 refine XF ?_;intros;rw[d4];refine Y.cM (Ε:=F2 wb n W5 (τ fS 3 a4 A::co::L)) (by simp only[F2,M0];exact aj) ?_;refine Y.cM (qo (k:=0) D a2) ?_;refine Y.cr (lH s5.nb s5.lb s5.d n s5.n r) ?_;obtain⟨fe,o1⟩:∃fe,dO s5.n.m r=fe:=⟨_,rfl⟩;rw[o1] at b1 a7 ⊢;refine Y.cM (Ε:=F2 wb n W5 (τ fS 3 a4 A::co::L)) (tR (k:=0) D a2) ?_;simp only[F2,M0];repeat first|refine Β.sm 22 ?_|refine dz ?_|intro _|refine bj ?_
 refine Β.c7 (α:=Unit) (λ_=>True) (λ_=>[(9,K n),(10,ay wb),(14,ae a4 A.length b9),(20,K fe)]) (λ_=>F2 wb n W5 (τ fS 3 a4 A::co::L)) ?_ ?_
 .by_cases Q:fs=2
  .refine XF ?_;intros;exact⟨(),trivial,aG,by simp only[F2,M0];exact aj⟩
  .have h3:=b1 Q;refine XF ?_;intros;exact⟨(),trivial,aG,by simp only[F2,M0];exact aj⟩
 rintro _ _;simp only[F2,M0];refine XF ?_;intros;rw[g7];refine Y.cM (Ε:=F2 wb n W5 (τ fS 3 a4 A::co::L)) (by simp only[F2,M0];exact aj) ?_;refine Y.cM (Cg (k:=0) D a2) ?_;refine Y.ca (qP s5.lb s5.S (ey s5.S) l5 D f3 f2) ?_;rintro _ _⟨b8,d1,l2,rfl,⟨m0,m3⟩,rfl⟩
 have n6:fe=3->A=l2:=λh3=>l6.unique m0 λa i=>by
  show aW (s.S.ξ a i)=aW (s5.S.ξ a i);rw[a7 h3 a i];show _=aW ((W0.m.nd 0).2.ξ a i);rw[F6.a8 (W:=W0) (k:=0) D e6]
 refine Y.cM (Ε:=τ fS 3 b8 l2::F2 wb n W5 (τ fS 3 a4 A::co::L)) (E.NZ.trans (E.a8 (Ch (k:=0) D a2))) ?_;simp only[F2,M0];repeat first|refine Β.sm 25 ?_|refine dz ?_|intro _|refine bj ?_
 refine Β.c7 (α:=Unit) (λ_=>True) (λ_=>[(9,K n),(10,ay wb)]) (λ_=>F2 wb n W5 (co::L)) ?_ ?_
 .by_cases h3:fe=3
  .obtain rfl:=n6 h3;refine XF ?_;intros;refine Β.loop (α:=Nat) (λi=>i<=A.length) (λi=>[(9,K n),(10,ay wb),(14,ae a4 A.length b9),(21,ae b8 A.length d1),(22,K (i:Int))]) (λi=>τ fS 3 b8 A::F2 wb n W5 (τ fS 3 a4 A::co::L)) (λi=>A.length - i) 0 (aD _) aG (by simp only[F2,M0];exact aj) ?_;rintro i hi;by_cases t2:i<A.length
   case neg =>
    refine XF ?_;intros;exact⟨(),trivial,aG,by simp only[F2,M0];exact aj⟩
   have o2:(i:Int)<(A.length:Int):=D;simp only[F2,M0];refine XF ?_;intros;refine δ.MP (Z.A0 (cs:=fS A[(i:Int).toNat]!) rfl rfl rfl) ac ?_;refine XF ?_;intros;refine⟨i+1,D,D,?_,?_⟩
   .rw[bJ i];exact aG
   .exact E.refl _
  .refine XF ?_;intros;exact⟨(),trivial,aG,by simp only[F2,M0];exact aj⟩
 rintro _ _;have b4:=c6.a.VB a6.2;have n2:s5.n.m.Ψ.length=s5.n.Ψ.length:=ak _;have r0:s5.n.m.Γ.length=s5.n.Γ.length:=ak _;have e5:=c0.VO 0 D;rw[e0] at e5;simp only[F2,M0];refine XF ?_;intros;rw[d4];refine Y.cM (Ε:=F2 wb n W5 (co::L)) (by simp only[F2,M0];exact aj) ?_;refine Y.cM (qo (k:=0) D a2) ?_;refine Y.ca (qF s5.nb s5.lb s5.d n s5.n (by dsimp only at b4;omega) (by dsimp only at b4;omega) c6.a.hin.Wm) ?_;rw[e5];rintro _ _⟨u3,s4,rfl,rfl⟩;refine Y.cM (Ε:=F2 wb n W5 (co::L)) (E.drop.trans (tR (k:=0) D a2)) ?_;have g0:=f6.at (D:0<=(1:Int)/\(1:Int)<n);obtain⟨s6,b3⟩:∃s,W5.cO[1]! = s:=⟨_,rfl⟩
 have h6:(W5.cO.map (·.nb))[(1:Int).toNat]! = s6.nb:=by
  rw[<-b3];exact eZ (f:=λs:K2=>s.nb) D
 have h8:W5.m.nf 1=s6.n.m:=Ez D b3;have h7:W5.m.nd 1=(s6.n.m,s6.S):=F6.a8 D b3;rw[h7] at g0;have b5:=g0.a.VB a6.2;have n3:s6.n.m.Ψ.length=s6.n.Ψ.length:=ak _;have r5:s6.n.m.Γ.length=s6.n.Γ.length:=ak _;have b6:=c0.VO 1 D;rw[h8] at b6;simp only[F2,M0];refine XF ?_;intros;rw[h6];refine Y.cM (Ε:=F2 wb n W5 (co::L)) (by simp only[F2,M0];exact aj) ?_;refine Y.cM (qo (k:=1) D b3) ?_;refine Y.ca (qF s6.nb s6.lb s6.d n s6.n (by dsimp only at b5;omega) (by dsimp only at b5;omega) g0.a.hin.Wm) ?_;rw[b6];rintro _ _⟨s3,l3,rfl,rfl⟩;refine Y.cM (Ε:=co::L) (by simp only[fh,Tc];exact aj) ?_;refine XF ?_;intros;refine Y.cr (uA) ?_;refine XF ?_;intros;exact KX.a8 aC E.drop ⟨rfl,rfl⟩
end
section
open Go.V Go.ChangeShapes Go.WideShapes Go.ChangeAt Go.RowKit
abbrev UG : List (String × DataW Unit) := [("worldmint/lexer.kinds", Rows.laid_worldmint_lexer_kinds)]
def gK : Tryz.prog.globalNamed "worldmint/lexer.kinds" = some 0 := Θ
def tK:(Tryz.prog.globals[0]?).map (·.type)=some 419:=Θ
def uK:Tryz.prog.underlying 419=some (.array 128 5):=Θ
def uE:Tryz.prog.underlying 5=some (.int .u8):=Θ
def cE:Tryz.prog.cellsOf 5=1:=Θ
def LQ:(Rows.laid_worldmint_lexer_kinds:DataW Unit)=.agg (Q6.map λx=>.lit (.int .u8 x)):=by rfl
set_option maxRecDepth 100000 in
def Jd(os:Os)(args:Array Value):laidMetH Λ UG ((World.doorLaid Λ 400 os).forCall (λ_ _=>0) ⟨#[],args,[]⟩).memory :=
 laidMetH_of_parts3 (fuel:=8) (laidMet_of_run' 8 Θ Θ) Θ Θ
def EL{W:World}(h:laidMetH Λ UG W):co (ie W) Hp.emp:=by
 rw[MakeChecks.laidMetH_plain _ _ _ Θ] at h;obtain⟨ps,⟨g0,t0,J,f0,p0,q0,a7,b1,b2,a4,_,_⟩,_,_⟩:=h;obtain rfl:=O3 (gK.symm.trans a7);obtain rfl:=O3 (tK.symm.trans b1);obtain⟨G,m1,rfl,a2,b0,hn,a5⟩:=DataW.trod_array uK a4;simp only[Prod.mk.injEq] at a2;have M:=a2.1;rw[LQ,DataW.agg.injEq] at M;have b4:=uD
 have cell:∀i,i<128->J[i]? = some (.int .u8 Q6[i]!):=by
  intro i hi;have h0:=a5 i hi;obtain⟨x,a3⟩:∃x,G[i]? = some x:=⟨G[i]'(by omega),List.getElem?_eq_getElem D⟩;rw[a3] at h0;obtain⟨k,e1,e2,_⟩:=DataW.trod_int uE h0;have hm:(G.map (·.1))[i]? = some x.1:=by rw[List.getElem?_map,a3];rfl
  rw[<-M,List.getElem?_map,List.getElem?_eq_getElem D] at hm;rw[e2] at hm;simp only[fq,Option.some.injEq,DataW.lit.injEq,Lit.int.injEq,true_and] at hm;rw[cE,gc] at e1
  have I:(J.toList.drop i)[0]? = some (.int .u8 k):=by
   have:=congrArg (λl=>l[0]?) e1
   simpa [List.getElem?_take] using this
  rw[List.getElem?_drop,dw,Array.getElem?_toList] at I;rw[I,<-hm,E7 D]
 refine⟨λ_ _=>rfl,.inr ?_⟩;have A:=b2;simp only[World.var?,gK,Option.bind_some] at A;split at A
 case h_1 cur ζ fz hb =>
  obtain rfl:=O3 A;refine⟨0,0,cur,ζ,fz,rfl,hb,?_⟩;intro i v hi;rw[dv]
  have a6:Q6.flatMap (eU .u8)=Q6.map λx=>.int .u8 x:=by
   have:∀l:List Int,l.flatMap (eU .u8)=l.map λx=>.int .u8 x:=by
    intro l;induction l with
    | nil=>rfl
    | cons a t ih=>rw[aS,ih];rfl
   exact this _
  rw[a6,List.getElem?_map] at hi;obtain⟨x,b3,rfl⟩:=Option.map_eq_some_iff.1 hi;obtain⟨a9,rfl⟩:=List.getElem?_eq_some_iff.1 b3;rw[cell i D,E7 a9]
 all_goals simp at A
