/- Lemmas. -/
import Derived.Test.YtlgpgjdggilkgaaGreatDoorEtbj
set_option linter.all false
set_option maxHeartbeats 16000000
namespace Go.Proofs.YtlgpgjdggilkgaaGreatDoor
section
open Go.V
theorem wP{G:Int}{c b ε ac:Nat}{W:iK}(h:F8 G c b ε ac W)(hb:b<=2000){k:Int}(hk:0<=k/\k<G):F8 G c b (ε+600000000) ac (PL W k):=by
 have hN:=h.at hk;have hr:=lq (E:=W.E) hk h.Nw.2 hN.a hN.bd hb;exact h.send hk ⟨hr.nd,hr.bd,by have e:=hr.μ;have:=hN.μ;grind⟩ hr.Q hr.len
theorem wL{G:Int}{c b ε ac:Nat}{W:iK}(h:F8 G c b ε ac W)(hb:b+24<=2000):F8 G c (b+24) (ε+3300) ac (NO G W):=by
 unfold NO;cases hm:W.Q with
 | nil=>exact h.mono D D D D
 | cons m Q =>
  have O:=h.Q m aj;have hN:=h.at O.x.to;have hr:=oN (E:=W.E) O.x.to hN.a O hN.bd hb
  have K:F8 G c (b+24) ε ac { W with Q:=Q } :=
   have T:=h.mono (an c) (D:b<=b+24) (an ε) (an ac)
   ⟨T.Nw,T.len,T.nd,λy Y=>h.Q y aj,by have:=h.ml;grind,T.E,T.il⟩
  dsimp only;rw[Χ O.x.to];exact K.send O.x.to ⟨hr.nd,hr.bd,by have e:=hr.μ;have:=hN.μ;grind⟩ hr.Q hr.len
def ol{G:Int}{c b ε ac:Nat}{W:iK}(h:F8 G c b ε ac W):∀k:Nat,b+24*k<=2000->F8 G c (b+24*k) (ε+3300*k) ac (Ox G W k)
 | 0,_=>h
 | k+1,hb=>(wL (ol h k D) D).mono (an _) D D (an _)
def ot{G:Int}{c b ε ac:Nat}{W:iK}(h:F8 G c b ε ac W)(hb:b<=2000):∀k:Nat,(k:Int)<=G->F8 G c b (ε+600000000*k) ac (Oj W k)
 | 0,_=>h
 | k+1,hk=>(wP (ot h hb k D) hb ⟨D,D⟩).mono (an _) (an _) D (an _)
def Cp{G:Int}{c b ε ac n:Nat}{W:iK}(h:F8 G c b ε ac W)(hc:c<=63)(hb:b+24*n<=1900)(hn:(Ox G (Oj W G.toNat) n).Q=[]):mS G (ε+7300000000+3300*n) ac W:=by
 have hr:=h.Nw;refine⟨λk hk=>(ot h D k hk).mono hc D D D,λk hk=>?_⟩;have K:=ot h D G.toNat D;by_cases B:k<=n
 .exact(ol K k D).mono hc D D D
 .rw[nB hn k D];exact(ol K n D).mono hc D D D
theorem Ho{G:Int}{W:iK}{m:eU}{Q:List eU}{R:L8}(h:W.Q=m::Q)(B:0<=m.to/\m.to<G)(hr:dO m.to G m W.E (W.nd m.to).1 (W.nd m.to).2=R):NO G W=({ W with Q:=Q }:iK).send m.to R:=by
 grind [NO]
def wl(na:υ)(xa:Ρ)(nb:υ)(xb:Ρ)(Q:List eU):iK:=⟨[(na,xa),(nb,xb)],Q,0,[]⟩
def JH{na B nb:υ}{xa M xb:Ρ}{Q out:List eU}(hr:dv 0 0 na xa=(out,B,M)):PL (wl na xa nb xb Q) 0=wl B M nb xb (Q++out):=by
 unfold PL;rw[show dv 0 (wl na xa nb xb Q).E ((wl na xa nb xb Q).nd 0).1 ((wl na xa nb xb Q).nd 0).2=_ from hr];rfl
def JG{na B nb:υ}{xa M xb:Ρ}{Q out:List eU}(hr:dv 1 0 nb xb=(out,B,M)):PL (wl na xa nb xb Q) 1=wl na xa B M (Q++out):=by
 unfold PL;rw[show dv 1 (wl na xa nb xb Q).E ((wl na xa nb xb Q).nd 1).1 ((wl na xa nb xb Q).nd 1).2=_ from hr];rfl
def Vw{na B nb:υ}{xa M xb:Ρ}{m:eU}{Q out:List eU}(a2:m.to=0)(hr:dO 0 2 m 0 na xa=(out,B,M)):NO 2 (wl na xa nb xb (m::Q))=wl B M nb xb (Q++out):=by
 have h:=Ho (G:=2) (W:=wl na xa nb xb (m::Q)) (m:=m) (Q:=Q) (R:=(out,B,M)) rfl D (by rw[a2];exact hr);rw[h,a2];rfl
def Vx{na B nb:υ}{xa M xb:Ρ}{m:eU}{Q out:List eU}(a2:m.to=1)(hr:dO 1 2 m 0 nb xb=(out,B,M)):NO 2 (wl na xa nb xb (m::Q))=wl na xa B M (Q++out):=by
 have h:=Ho (G:=2) (W:=wl na xa nb xb (m::Q)) (m:=m) (Q:=Q) (R:=(out,B,M)) rfl D (by rw[a2];exact hr);rw[h,a2];rfl
def xD:Oj (wl Of M4 OF NQ [NR]) 2=wl Of M4 OF NQ [NR,NR]:=by
 have K:PL (wl Of M4 OF NQ [NR]) 0=wl Of M4 OF NQ [NR,NR]:=JH MH;have T:PL (wl Of M4 OF NQ [NR,NR]) 1=wl Of M4 OF NQ [NR,NR]:=JG MI;show PL (PL (wl Of M4 OF NQ [NR]) 0) 1=_;rw[K,T]
def Ci:Oj (wl NY Nq OZ M5 []) 2=wl NY Nq OZ M5 []:=by
 have K:PL (wl NY Nq OZ M5 []) 0=wl NY Nq OZ M5 []:=JH MG;have T:PL (wl NY Nq OZ M5 []) 1=wl NY Nq OZ M5 []:=JG MF;show PL (PL (wl NY Nq OZ M5 []) 0) 1=_;rw[K,T]
theorem tL:Ox 2 (wl Of M4 OF NQ [NR,NR]) 10=wl NY Nq OZ M5 []:=by
 have e1:NO 2 (wl Of M4 OF NQ [NR,NR])=wl Of M4 NZ Qw [NR,Qy]:=Vx rfl ZG;have e2:NO 2 (wl Of M4 NZ Qw [NR,Qy])=wl Of M4 NZ Qw [Qy,Qy]:=Vx rfl ZH;have e3:NO 2 (wl Of M4 NZ Qw [Qy,Qy])=wl Sq Pw NZ Qw [Qy,T0,S9]:=Vw rfl ZL;have e4:NO 2 (wl Sq Pw NZ Qw [Qy,T0,S9])=wl Sq Pw NZ Qw [T0,S9]:=Vw rfl ZM;have e5:NO 2 (wl Sq Pw NZ Qw [T0,S9])=wl Sq Pw V8 S7 [S9,U1]:=Vx rfl ZN;have e6:NO 2 (wl Sq Pw V8 S7 [S9,U1])=wl Sq Pw S8 M5 [U1,U2,T1]:=Vx rfl ZO;have e7:NO 2 (wl Sq Pw S8 M5 [U1,U2,T1])=wl V6 Pw S8 M5 [U2,T1]:=Vw rfl ZP;have e8:NO 2 (wl V6 Pw S8 M5 [U2,T1])=wl V7 Nq S8 M5 [T1,U3]:=Vw rfl ZQ;have e9:NO 2 (wl V7 Nq S8 M5 [T1,U3])=wl NY Nq S8 M5 [U3]:=Vw rfl ZR;have B:NO 2 (wl NY Nq S8 M5 [U3])=wl NY Nq OZ M5 []:=Vx rfl ZS;show NO 2 (NO 2 (NO 2 (NO 2 (NO 2 (NO 2 (NO 2 (NO 2 (NO 2 (NO 2 (wl Of M4 OF NQ [NR,NR]))))))))))=_;grind
def WY:cP 2 (wl Of M4 OF NQ [NR]) 1=wl NY Nq OZ M5 []/\cP 2 (wl Of M4 OF NQ [NR]) 2=wl NY Nq OZ M5 []:=by
 have K:cP 2 (wl Of M4 OF NQ [NR]) 1=wl NY Nq OZ M5 []:=by
  show Ox 2 (Oj (wl Of M4 OF NQ [NR]) 2) 400=_;rw[xD,nB (j:=10) (by rw[tL];rfl) 400 ae,tL]
 refine⟨K,?_⟩;show Ox 2 (Oj (cP 2 (wl Of M4 OF NQ [NR]) 1) 2) 400=_;rw[K,Ci,nB (j:=0) rfl 400 ae];rfl
def ME:jG 2 4 xl:=by
 refine⟨by decide,λl U=>?_⟩;rcases Nj U with rfl|U
 .exact⟨by decide,by decide,⟨by decide,by decide⟩,⟨by decide,by decide⟩,by decide,⟨⟨by decide,by decide,by decide,by decide⟩,by decide,trivial⟩⟩
 .rw[F6 U];exact⟨by decide,by decide,⟨by decide,by decide⟩,⟨by decide,by decide⟩,by decide,⟨⟨by decide,by decide,by decide,by decide⟩,by decide,trivial⟩⟩
def Fw:fL 0 2 xl 0 9 OF Qj=((0,0),[NR],Of,M4):=by
 unfold fL;rw[Ν (by rintro (h|h);exact D;exact h ME),Ν ae];exact Prod.ext rfl ZJ
def Vy:(E2 (L3 0 I6) (H7 0 0 [⟨0,1,0,5,[]⟩])).1=0/\bM (L3 0 I6) (H7 0 0 [⟨0,1,0,5,[]⟩])=Qj/\Qv 0 1 Qj:=by
 obtain⟨K,T⟩:=(Qv.zero (d:=0) ae).post ae (to:=1) (x:=0) (n:=5) ⟨by decide,by decide,by decide⟩ none;have h3:bM (L3 0 I6) (H7 0 0 [⟨0,1,0,5,[]⟩])=Qj:=(qU (S:=L3 0 I6) (s:=H7 0 0 [⟨0,1,0,5,[]⟩]) ae (nT ae ae ae ae ae (rj ae rfl) ae) rfl).2;exact⟨K,h3,h3▸T⟩
def WZ:(E2 (L3 1 I6) (H7 0 0 [⟨0,2,1,3,[]⟩])).1=0/\bM (L3 1 I6) (H7 0 0 [⟨0,2,1,3,[]⟩])=NQ/\Qv 1 1 NQ:=by
 obtain⟨K,T⟩:=(Qv.zero (d:=1) ae).post ae (to:=2) (x:=1) (n:=3) ⟨by decide,by decide,by decide⟩ none;have h3:bM (L3 1 I6) (H7 0 0 [⟨0,2,1,3,[]⟩])=NQ:=(qU (S:=L3 1 I6) (s:=H7 0 0 [⟨0,2,1,3,[]⟩]) ae (nT ae ae ae ae ae (rj ae rfl) ae) rfl).2;exact⟨K,h3,h3▸T⟩
theorem Vz:F8 2 63 40 1 0 (wl Of M4 OF NQ [NR]):=by
 have hb:=qc (π:=I6) (d:=0) (G:=2) (E:=0) (C6:=9) (ls:=xl) (N:=OF) (S:=Qj) (b:=8) ae ae (xo Vy.2.2) ae ae ae ae ae ae;rw[Fw] at hb;have hs:=(hb.resolve_left aj).2;have K:QN 1 2 63 40 (OF,NQ):=⟨xo WZ.2.2,by decide,by decide⟩;refine⟨by decide,rfl,λi hi=>?_,hs.Q,an _,by decide,by decide⟩
 have B:i=0\/i=1:=by
  have:i<2:=hi;omega
 rcases B with rfl|rfl
 .exact⟨hs.nd,aO hs.bd ae,by decide⟩
 .exact K
def JF:∀r,r<2->mS 2 8000000000 0 (cP 2 (wl Of M4 OF NQ [NR]) r):=λr hr=>by
 have B:r=0\/r=1:=D;have m1:∀{W:iK} {ε:Nat},ε<=8000000000->mS 2 ε 0 W->mS 2 8000000000 0 W:=λhM h=>⟨λk hk=>(h.1 k hk).mono D D hM D,λk hk=>(h.2 k hk).mono D D hM D⟩;rcases B with rfl|rfl
 .exact m1 ae (Cp (n:=10) Vz ae ae (by show(Ox 2 (Oj (wl Of M4 OF NQ [NR]) 2) 10).Q=[];rw[xD,tL];rfl))
 .rw[WY.1];have h0:=ol (ot Vz ae 2 ae) 10 ae;rw[xD,tL] at h0;have K:F8 2 63 280 0 0 (wl NY Nq OZ M5 []):=⟨h0.Nw,h0.len,h0.nd,h0.Q,an _,h0.E,h0.il⟩;exact m1 ae (Cp (n:=0) K ae ae (by show(Oj (wl NY Nq OZ M5 []) 2).Q=[];rw[Ci];rfl))
theorem MD:lh NY=[]:=by
 unfold lh;rw[nW (N:=NY) (k:=0) rfl];grind [gd,NY,ζ,xe,xp,bB,List.mem_singleton]
def XV:fU NY 0=2/\fU OZ 0=2:=⟨rfl,rfl⟩
end
section
open Go.V
attribute [local irreducible] Α GO GP δ ms GF GE Ev Ef C0 F CB GB V.Enters bJ L9
def mQ{L:Η}(b:Nat)(S:Ρ)(k:Nat)(hS:Sk k S)(hk:k<=4096)(a i:Int) :
  Τ Θ 58 #[av b,J a,J i] (aU b S::L) (F3 (J (aY (S.ν a i))) (aU b S::L)):=by
 refine Τ.bd ?_;refine Α.c9 (f:=jY b S) ?_;intro x;simp only[jY,E1,cJ,au,ax];refine Α.d7 ?_;intro hF;have hg:=hS.ν a i;have B:=hF.ν a i;rw[<-B] at hg ⊢;refine Α.cL (F.at (Ο:=Ψ (λp:(Int×Int)×h1=>G8 p.2) x.ν) (vU (a,i))) ?_;refine Nd ?_;intros;refine GO.ev (Ev.j5 rfl rfl) ae ?_;rw[vd];generalize fJ x.ν (a,i)=sk at *;simp only[h1.v];refine Nd ?_;intros;refine GO.cr (lI sk.ad sk.C8.length sk.cap sk.C8 rfl (aO hg.len hk) hg.C8) ?_;refine Nd ?_;intros;refine KX.a8 aF ?_ ⟨rfl,rfl⟩;refine F.trans ?_ (jf x hF);simp only[E1,cJ];exact ak
def Ck{G:Int}{s0 s1:K2}{L:Η}:F (ey (K5 G) [s0,s1]::L) (eu s0.nb s0.lb s0.d G s0.n (aU s0.lb s0.S::eu s1.nb s1.lb s1.d G s1.n (aU s1.lb s1.S::L))):=by
 refine F.Vf.trans (F.Tl.trans ?_);show F (eu s0.nb s0.lb s0.d G s0.n (aU s0.lb s0.S::ey (K5 G) [s1]::L)) _
 have h:F (ey (K5 G) [s1]::L) (eu s1.nb s1.lb s1.d G s1.n (aU s1.lb s1.S::L)):=by
  refine F.Vf.trans (F.Tl.trans ?_);show F (eu s1.nb s1.lb s1.d G s1.n (aU s1.lb s1.S::ey (K5 G) []::L)) _;simp only[eu,gL];exact ak
 have T:F (aU s0.lb s0.S::ey (K5 G) [s1]::L) (aU s0.lb s0.S::eu s1.nb s1.lb s1.d G s1.n (aU s1.lb s1.S::L)):=F.c7 h;simp only[eu,gL] at T ⊢;repeat first|exact T|refine F.c7 ?_
def LL{G:Int}{s0 s1:K2}{L:Η}:F (eu s0.nb s0.lb s0.d G s0.n (aU s0.lb s0.S::eu s1.nb s1.lb s1.d G s1.n (aU s1.lb s1.S::L))) (ey (K5 G) [s0,s1]::L):=by
 refine F.trans (fG:=eu s1.nb s1.lb s1.d G s1.n (aU s1.lb s1.S::eu s0.nb s0.lb s0.d G s0.n (aU s0.lb s0.S::L))) (by simp only[eu,gL];exact ak) ?_;refine(F.f7 (Ο:=eu s1.nb s1.lb s1.d G s1.n [aU s1.lb s1.S])).trans ?_;refine F.trans (fG:=eu s0.nb s0.lb s0.d G s0.n (aU s0.lb s0.S::K5 G s1::L)) (by simp only[eu,gL,K5];exact ak) ?_;refine(F.f7 (Ο:=eu s0.nb s0.lb s0.d G s0.n [aU s0.lb s0.S])).trans ?_;refine F.trans (fG:=K5 G s1::K5 G s0::L) (by simp only[K5];exact ak) ?_;exact(F.c7 ((F.j5 (K5 G)).trans F.swap)).trans ((by exact ak:F _ (K5 G s1::ey (K5 G) []::K5 G s0::L)).trans (F.UI.trans ((by exact ak:F _ (K5 G s0::ey (K5 G) [s1]::L)).trans F.UI)))
end
section
open Go.V
def zk{α:Type}{l:List α}(h:l.length=2):∃a b,l=[a,b]:=by
 match l,h with
 | [a,b],_=>exact⟨a,b,rfl⟩
def IO{α:Type}{l:List α}(h:l.length=1):∃a,l=[a]:=by
 match l,h with
 | [a],_=>exact⟨a,rfl⟩
def XW{l:Nl}{ad:OA}{cap:Nat}{am:List (Int×Int)}{L:Η}(h:iJ l=ξ dZ 2 ad am):F (Ω dZ 2 Qc ad cap am::L) (iJ l::L):=by
 rw[h];exact F.N9
attribute [local irreducible] Α GO GP δ ms GF GE Ev Ef C0 F CB GB V.Enters bJ L9
def EM{L:Η} :
  Τ Θ 20 #[] (cc::L) (F3 (.bool true) (cc::L)):=by
 refine Τ.bd ?_;refine Nd ?_;intros;refine GO.cL (Γ:=cc::ξ (dJ .i64) 1 none []::L) ((F.f5 (dJ .i64) 1 none).trans ak) ?_;refine GO.ca (ua 2 ae none 0 0 [] rfl (an 0) (λx O=>hD O aG)) ?_;rintro _ _⟨wb,W,rfl,hW,rfl⟩;obtain⟨aa,bG,hx,I3,No,B4,fH,iI,E,gR,I2,J4⟩:=W;obtain⟨q1,q2,q3,q4,q5⟩:=hW;dsimp only at q1 q2 q3 q4 q5;subst q3 q4 q5;obtain⟨s0,s1,rfl⟩:=zk (D:aa.length=2);have h0:=q2 0 (by show 0<2;decide);have K:=q2 1 (by show 1<2;decide);rw[show([s0,s1]:List K2)[0]! = s0 from rfl] at h0;rw[show([s0,s1]:List K2)[1]! = s1 from rfl] at K;obtain⟨a9,B,b1,n0,S0⟩:=s0;obtain⟨NZ,a7,b5,n1,S1⟩:=s1;obtain⟨M,a2,a3,a4⟩:=h0;obtain⟨c1,c2,c3,c4⟩:=K;dsimp only at M a2 a3 a4 c1 c2 c3 c4;have a6:b1=0:=M;have a5:S0=L3 0 I6:=a4 rfl;have c6:b5=1:=c1;have c5:S1=L3 1 I6:=c4 rfl;clear M c1 a4 c4;subst a6 c6 a5 c5;have a3:Qv 0 8 (L3 0 I6):=a3;have c3:Qv 1 8 (L3 1 I6):=c3;simp only[B9,K3,aq,bz,aK,bu];refine Nd ?_;intros;rename_i bm;rw[show([B,a7]:List Nat)[Int.toNat 0]! = B from rfl];refine GO.cL (F.at (Ο:=ey (K5 2) [⟨a9,B,0,n0,L3 0 I6⟩,⟨NZ,a7,1,n1,L3 1 I6⟩]) Ck) ?_;simp only[eu,gL];have h6:=a3.k;have h7:=c3.k;refine GO.cL ((F.at (Ο:=obj bm OY [J 0,J 1,J 0,J 5,ah none 0 0]) (F.d9 (Ε:=cu) (sz:=5) (I:=(Nv 1 0 5 (some ⟨bm,0,none⟩)).fe) (n:=1) rfl rfl (by intro y Y;rfl) ae)).trans (F.N9.trans ((F.f5 aL 3 none).trans (F.d7 (f:=Ns) (x:=(⟨⟨0,1,0,5,[]⟩,none,0⟩:J3)) ku)))) ?_;have hin:=xO 1 0 5 (some ⟨bm,0,none⟩);refine GO.cL ((F.at (Ο:=ξ cu 5 (some ⟨bm,0,none⟩) (Nv 1 0 5 (some ⟨bm,0,none⟩)).fe) (F.refl _)).trans (F.at (Ο:=aU B (L3 0 I6)) (F.refl _))) ?_;refine GO.ca (kZ B (L3 0 I6) (dg (L3 0 I6)) a3.K1.a (by rw[a3.K1.π];exact a3.K1.ok) a3.K1.now (Nv 1 0 5 (some ⟨bm,0,none⟩)) hin.1 hin.2 (by show dg (L3 0 I6)+1<=2000;omega) tW) ?_;rw[show(Nv 1 0 5 (some ⟨bm,0,none⟩)).m=H7 0 0 [⟨0,1,0,5,[]⟩] from rfl,Vy.1,Vy.2.1];generalize Vl (L3 0 I6) (H7 0 0 [⟨0,1,0,5,[]⟩])=r0;rintro _ _⟨rfl,rfl⟩;refine Nd ?_;intros;rename_i b2;rw[show([B,a7]:List Nat)[Int.toNat 1]! = a7 from rfl];refine GO.cL ((F.at (Ο:=obj b2 OY [J 0,J 2,J 1,J 3,ah none 0 0]) (F.d9 (Ε:=cu) (sz:=5) (I:=(Nv 2 1 3 (some ⟨b2,0,none⟩)).fe) (n:=1) rfl rfl (by intro y Y;rfl) ae)).trans (F.N9.trans ((F.f5 aL 3 none).trans (F.d7 (f:=Ns) (x:=(⟨⟨0,2,1,3,[]⟩,none,0⟩:J3)) ku)))) ?_;have b3:=xO 2 1 3 (some ⟨b2,0,none⟩);refine GO.cL ((F.at (Ο:=ξ cu 5 (some ⟨b2,0,none⟩) (Nv 2 1 3 (some ⟨b2,0,none⟩)).fe) (F.refl _)).trans (F.at (Ο:=aU a7 (L3 1 I6)) (F.refl _))) ?_;refine GO.ca (kZ a7 (L3 1 I6) (dg (L3 1 I6)) c3.K1.a (by rw[c3.K1.π];exact c3.K1.ok) c3.K1.now (Nv 2 1 3 (some ⟨b2,0,none⟩)) b3.1 b3.2 (by show dg (L3 1 I6)+1<=2000;omega) tW) ?_;rw[show(Nv 2 1 3 (some ⟨b2,0,none⟩)).m=H7 0 0 [⟨0,2,1,3,[]⟩] from rfl,WZ.1,WZ.2.1];generalize Vl (L3 1 I6) (H7 0 0 [⟨0,2,1,3,[]⟩])=r1;rintro _ _⟨rfl,rfl⟩;refine Nd ?_;intros;rename_i ba bb bl;rw[show([a9,NZ]:List Nat)[Int.toNat 0]! = a9 from rfl];obtain⟨la,c0⟩:∃l:Nl,(⟨P7,some ⟨ba,0,none⟩,1⟩:Nl)=l:=⟨_,rfl⟩;obtain⟨lb,d0⟩:∃l:Nl,(⟨QO,some ⟨bb,0,none⟩,1⟩:Nl)=l:=⟨_,rfl⟩;refine GO.cL (Γ:=eu a9 B 0 2 n0 (aU B Qj::(eu NZ a7 1 2 n1 (aU a7 NQ::obj wb PK [ah bG (0+1+1) hx,ah I3 (0+1+1) No,ah fH 0 iI,J 0,ah I2 0 J4]::ξ dl 1 bG [B,a7]::ξ dl 1 I3 [a9,NZ]::OS bq 3 B1 fH iI []::Ψ gM []::Ω (dJ .i64) 1 B7 I2 J4 []::cc::Ω dZ 2 Qc (some ⟨ba,0,none⟩) 1 [(0,5)]::Ω dZ 2 Qc (some ⟨bb,0,none⟩) 1 [(1,3)]::Ω aZ 5 PT (some ⟨bl,0,none⟩) 2 [la,lb]::L)))) ?_ ?_
 .refine(F.at (Ο:=obj ba Qc [J 0,J 5]) (F.d9 (Ε:=dZ) (sz:=2) (I:=[(0,5)]) (n:=1) rfl rfl (by intro y Y;rfl) ae)).trans ?_;refine(F.at (Ο:=obj bb Qc [J 1,J 3]) (F.d9 (Ε:=dZ) (sz:=2) (I:=[(1,3)]) (n:=1) rfl rfl (by intro y Y;rfl) ae)).trans ?_;refine(F.at (Ο:=obj bl PT [J 0,J 1,J 1,J 2,ah (some ⟨ba,0,none⟩) 1 1,J 1,J 2,J 0,J 1,ah (some ⟨bb,0,none⟩) 1 1]) (F.d9 (Ε:=aZ) (sz:=5) (I:=[la,lb]) (n:=2) (by rw[<-c0,<-d0];rfl) rfl (by intro y Y;rfl) ae)).trans ?_;simp only[eu,gL];exact ak
 have e1:la.m=P7:=by rw[<-c0]
 have e2:lb.m=QO:=by rw[<-d0]
 have d1:[la,lb].map (·.m)=xl:=by rw[aq,aq,bz,e1,e2];rfl
 refine GO.cL (Γ:=ξ aZ 5 (some ⟨bl,0,none⟩) [la,lb]::Ψ iJ [la,lb]::eu a9 B 0 2 n0 (aU B Qj::(eu NZ a7 1 2 n1 (aU a7 NQ::obj wb PK [ah bG (0+1+1) hx,ah I3 (0+1+1) No,ah fH 0 iI,J 0,ah I2 0 J4]::ξ dl 1 bG [B,a7]::ξ dl 1 I3 [a9,NZ]::OS bq 3 B1 fH iI []::Ψ gM []::Ω (dJ .i64) 1 B7 I2 J4 []::cc::L)))) ?_ ?_
 .simp only[eu,gL];refine(F.at (Ο:=Ω aZ 5 PT (some ⟨bl,0,none⟩) 2 [la,lb]) F.N9).trans ?_;refine(F.at (Ο:=Ω dZ 2 Qc (some ⟨bb,0,none⟩) 1 [(1,3)]) ((XW (l:=lb) (by rw[<-d0];rfl)).trans (F.d7 (f:=iJ) fB))).trans ?_;refine(F.at (Ο:=Ω dZ 2 Qc (some ⟨ba,0,none⟩) 1 [(0,5)]) (XW (l:=la) (by rw[<-c0];rfl))).trans ?_;refine F.trans (fG:=iJ la::Ψ iJ [lb]::(ξ aZ 5 (some ⟨bl,0,none⟩) [la,lb]::eu a9 B 0 2 n0 (aU B Qj::(eu NZ a7 1 2 n1 (aU a7 NQ::obj wb PK [ah bG (0+1+1) hx,ah I3 (0+1+1) No,ah fH 0 iI,J 0,ah I2 0 J4]::ξ dl 1 bG [B,a7]::ξ dl 1 I3 [a9,NZ]::OS bq 3 B1 fH iI []::Ψ gM []::Ω (dJ .i64) 1 B7 I2 J4 []::cc::L))))) (by simp only[eu,gL];exact ak) ?_;refine(F.j6 (f:=iJ) fB).trans ?_;simp only[eu,gL];exact ak
 have e6:Qh I6 0 2 n0.m Qj:=by rw[a2];exact xo Vy.2.2
 have f1:n0.μ=0:=by have e:=congrArg υ.μ a2;exact e
 have f0:∀l∈[la,lb],l.m.am.length<=1000:=λl U=>by
  rcases Nj U with rfl|U
  .rw[e1];decide
  .rw[F6 U,e2];decide
 have g0:dg Qj+F0 n0.m+2*NN ([la,lb].map (·.m))<=2000:=by
  rw[d1,a2];have:=Vy.2.2.k
  show dg Qj+0+2*2<=2000;omega
 have f4:ζ n0.m.Φ (0*4294967296+n0.μ)=none:=by rw[a2,f1];rfl
 have d3:=λε:Η=>uR (L:=ε) a9 B 0 2 ae n0 Qj I6 e6.hin (by show I6.B5.length<=64;decide) (by rw[f1];decide) (some ⟨bl,0,none⟩) 2 2 [la,lb] rfl (by show 2<=1000;decide) f0 0 9 g0 f4;rw[d1,a2,Fw] at d3;refine GO.ca (d3 _) ?_;rintro _ _⟨b8,b0,ds,n2,rfl,b9,g6,rfl⟩;dsimp only at b9 g6
 obtain⟨Μ,rfl⟩:∃Μ,ds=[Μ]:=by
  have U:=congrArg List.length b9;rw[al] at U;exact IO U
 have hd:Μ.m=NR:=by have e:=b9;rw[aq,bz] at e;exact(List.cons.inj e).1
 simp only[eu,gL,aK,bu];clear d3 f0 g0 f4 e6 c0 d0 e1 e2 d1 hin b3 q1 q2 b9;have e7:QN 0 2 63 40 (Of,M4):=Vz.at ae;have h4:QN 1 2 63 40 (OF,NQ):=Vz.at ae;have f6:=e7.a.hin.K1.a.g;have g7:=e7.bd;dsimp only at f6 g7;refine Nd ?_;intros;refine GB.neg (λh=>h (by show Μ.m.to=1;rw[hd];rfl)) ?_;refine Nd ?_;intros;rw[show([B,a7]:List Nat)[Int.toNat 0]! = B from rfl];refine GO.cL (F.at (Ο:=aU B M4) (F.refl _)) ?_;refine GO.ca (mQ B M4 (dg M4) f6 D 1 0) ?_;rw[WX.1];rintro _ _⟨rfl,rfl⟩;refine Nd ?_;intros;obtain⟨W0,d2⟩:∃W:G1,(⟨[⟨a9,B,0,n2,M4⟩,⟨NZ,a7,1,n1,NQ⟩],bG,hx,I3,No,[Μ],b8,b0,0,[],I2,J4⟩:G1)=W:=⟨_,rfl⟩
 have d6:W0.m=wl Of M4 OF NQ [NR]:=by
  rw[<-d2];simp only[G1.m,aq,bz,K2.m,g6,c2,hd];rfl
 have b7:Tz W0:=by
  rw[<-d2];intro i hi;have h5:i<2:=hi;rcases (D:i=0\/i=1) with rfl|rfl<;>rfl
 refine GO.cL (Γ:=B9 wb 2 W0 (cc::L)) ?_ ?_
 .rw[<-d2];simp only[B9,K3,aq,bz,aK,bu];refine(F.at (Ο:=Ω bq 3 B1 b8 b0 [Μ]) (F.k8)).trans ?_;refine F.trans (fG:=eu a9 B 0 2 n2 (aU B M4::eu NZ a7 1 2 n1 (aU a7 NQ::(obj wb PK [ah bG (0+1+1) hx,ah I3 (0+1+1) No,ah b8 (0+1) b0,J 0,ah I2 0 J4]::ξ dl 1 bG [B,a7]::ξ dl 1 I3 [a9,NZ]::OS bq 3 B1 b8 b0 [Μ]::Ψ gM [Μ]::Ω (dJ .i64) 1 B7 I2 J4 []::cc::L)))) (by simp only[eu,gL];exact ak) ?_;refine(LL (s0:=⟨a9,B,0,n2,M4⟩) (s1:=⟨NZ,a7,1,n1,NQ⟩)).trans ?_;exact ak
 have b4:=λε:Η=>ou (L:=ε) wb 2 W0 b7 2 ae (ε:=8000000000) (ac:=0) ae (by rw[d6];exact Vz.mono (an _) ae ae (an _)) (λr hr=>by rw[d6];exact JF r hr);rw[d6,WY.2] at b4;refine GO.ca (b4 _) ?_;rintro _ _⟨W',rfl,⟨g5,T⟩,rfl⟩;obtain⟨aa,bG,hx,I3,No,B4,fH,iI,E,gR,I2,J4⟩:=W';have b6:aa.map K2.m=[(NY,Nq),(OZ,M5)]:=congrArg iK.E7 g5;obtain⟨s0,s1,rfl⟩:=zk (show aa.length=2 by have e:=congrArg List.length b6;rw[al] at e;exact e);obtain⟨a9,B,b1,m0,S0⟩:=s0;obtain⟨NZ,a7,b5,m1,S1⟩:=s1;rw[aq,aq,bz] at b6;have e0:=(List.cons.inj b6).1;have e4:=(List.cons.inj (List.cons.inj b6).2).1;have g1:m0.m=NY:=congrArg Prod.fst e0;have g2:S0=Nq:=congrArg Prod.snd e0;have g3:m1.m=OZ:=congrArg Prod.fst e4;have g4:S1=M5:=congrArg Prod.snd e4;subst g2 g4;clear g5 T b4 b7 b6 e0 e4;simp only[B9,K3,aq,bz,aK,bu];refine GO.cL ((F.at (Ο:=ey (K5 2) [⟨a9,B,b1,m0,Nq⟩,⟨NZ,a7,b5,m1,M5⟩]) Ck).trans (F.trans (fG:=eu a9 B b1 2 m0 (aU B Nq::eu NZ a7 b5 2 m1 (aU a7 M5::obj wb PK [ah bG (0+1+1) hx,ah I3 (0+1+1) No,ah fH B4.length iI,J E,ah I2 gR.length J4]::ξ dl 1 bG [B,a7]::ξ dl 1 I3 [a9,NZ]::cc::L))) (by simp only[eu,gL];exact ak) (F.refl _))) ?_;simp only[eu,gL]
 have hF:F8 2 63 1900 8000000000 0 (wl NY Nq OZ M5 []):=by
  have q:=(JF 1 ae).1 0 ae;rw[WY.1] at q;exact q
 have e8:QN 0 2 63 1900 (NY,Nq):=hF.at ae;have e9:QN 1 2 63 1900 (OZ,M5):=hF.at ae;have f2:=e8.a.hin.K1.a.g;have f3:=e9.a.hin.K1.a.g;have d4:=e8.bd;have d5:=e9.bd;dsimp only at f2 f3 d4 d5
 have e5:∀p∈m0.Β,p.2.Z.length<=1000:=λp hp=>by
  have q:(p.1,p.2.m)∈NY.Β:=by rw[<-g1];exact List.mem_map.2 ⟨p,hp,rfl⟩
  have e:=F6 q;have e2:=congrArg (λx:Int×NF=>x.2.Z.length) e;have e3:p.2.Z.length=1:=(al _).symm.trans e2;omega
 refine Nd ?_;intros;rw[show([a9,NZ]:List Nat)[Int.toNat 0]! = a9 from rfl];refine GO.ca (lJ a9 B b1 2 m0 0) ?_;rw[g1,XV.1];rintro _ _⟨rfl,rfl⟩;simp only[eu,gL];refine Nd ?_;intros;rw[show([a9,NZ]:List Nat)[Int.toNat 1]! = NZ from rfl];refine GO.cL (Γ:=eu NZ a7 b5 2 m1 (aU a7 M5::eu a9 B b1 2 m0 (aU B Nq::obj wb PK [ah bG (0+1+1) hx,ah I3 (0+1+1) No,ah fH B4.length iI,J E,ah I2 gR.length J4]::ξ dl 1 bG [B,a7]::ξ dl 1 I3 [a9,NZ]::cc::L))) (by simp only[eu,gL];exact ak) ?_;refine GO.ca (lJ NZ a7 b5 2 m1 0) ?_;rw[g3,XV.2];rintro _ _⟨rfl,rfl⟩;simp only[eu,gL];refine Nd ?_;intros;rw[show([B,a7]:List Nat)[Int.toNat 0]! = B from rfl];refine GO.cL (F.at (Ο:=aU B Nq) (F.refl _)) ?_;refine GO.ca (mQ B Nq (dg Nq) f2 D 1 1) ?_;rw[WX.2.1];rintro _ _⟨rfl,rfl⟩;refine Nd ?_;intros;rw[show([B,a7]:List Nat)[Int.toNat 1]! = a7 from rfl];refine GO.cL (F.at (Ο:=aU a7 M5) (F.refl _)) ?_;refine GO.ca (mQ a7 M5 (dg M5) f3 D 2 0) ?_;rw[WX.2.2];rintro _ _⟨rfl,rfl⟩;refine Nd ?_;intros;rw[show([a9,NZ]:List Nat)[Int.toNat 0]! = a9 from rfl];refine GO.cL (Γ:=eu a9 B b1 2 m0 (cc::L)) (by simp only[eu,gL];exact ak) ?_;refine GO.ca (wm a9 B b1 2 m0 (by rw[show m0.Φ.length=NY.Φ.length by rw[<-g1];exact(al _).symm];decide) (by rw[show m0.Β.length=NY.Β.length by rw[<-g1];exact(al _).symm];decide) e5) ?_;rw[g1,MD];rintro _ _⟨h8,h3,rfl,rfl⟩;simp only[eu,gL];refine Nd ?_;intros;refine KX.a8 aF ?_ ⟨by rw[bN (show(([]:List Int).length:Int)=0 from rfl)];rfl,rfl⟩;exact ak
end
section
open Go.V
def VA(k:Int):Int:=if k=0\/k=5 then 1 else if k=1\/k=6 then -1 else 0
def V9(x:Int)(f:E3):Int:=if f.a1=x then VA f.Δ*f.n else 0
def R8(x:Int)(fl:List E3):Int:=(fl.map (V9 x)).sum
theorem Kt(x:Int)(a b:List E3):R8 x (a++b)=R8 x a+R8 x b:=by
 grind [R8]
theorem xW(x:Int)(f:E3)(b:List E3):R8 x (f::b)=V9 x f+R8 x b:=by
 grind [R8]
def Ta(k:Int):Int->List A8->List E3->Prop
 | _,[],iL=>iL=[]
 | A,m::Q,iL=>∃f F',iL=f::F'/\(f.A=A/\f.Δ=k/\f.a1=m.a1/\f.n=m.n/\(k=5->f.Β=m.Β))/\Ta k (A+1) Q F'
theorem uH{d:Int}{fl:List E3}{hl:Int->Bool}{s:D6}{W:Wk}{m:A8}(h:(cg d fl hl s W m).1=0):(cg d fl hl s W m).2.Κ=W.Κ++[gF d fl.length hl s W m]/\(cg d fl hl s W m).2.id=Pu W.id m.a1 (du W m):=by
 grind [cg]
theorem Gs{k:Int}{W:Wk}{m:A8}(hk:¬(k=7\/k=9))(he:iw k m)(hn:m.Λ≠m.to):du W m=W.id m.a1+VA k*m.n:=by
 grind [iw,du,VA]
theorem wF{d:Int}{fl:List E3}{hl:Int->Bool}{s:D6}(hk:¬(s.Δ=7\/s.Δ=9)):∀(Q:List A8) (W:Wk),(cR d fl hl s W Q).1=0->(∀m∈Q,iw s.Δ m/\m.Λ≠m.to)->∃iL,(cR d fl hl s W Q).2.Κ=W.Κ++iL/\Ta s.Δ (eZ d fl.length W) Q iL/\∀x,(cR d fl hl s W Q).2.id x=W.id x+R8 x iL
 | [],W,_,_=>⟨[],(aI _).symm,rfl,λx=>(dC _).symm⟩
 | m::Q,W,h,hm=>by
  have e:cR d fl hl s W (m::Q)=if(cg d fl hl s W m).1=0 then cR d fl hl s (cg d fl hl s W m).2 Q else((cg d fl hl s W m).1,W):=rfl;rw[e] at h ⊢;by_cases h0:(cg d fl hl s W m).1=0
  case neg =>
   grind
  rw[Χ h0] at h ⊢;obtain⟨f1,f2⟩:=uH h0;obtain⟨he,B⟩:=hm m aj;obtain⟨iL,g1,g2,g3⟩:=wF hk Q (cg d fl hl s W m).2 h aj;refine⟨gF d fl.length hl s W m::iL,?_,⟨_,iL,rfl,⟨rfl,rfl,rfl,rfl,λh5=>?_⟩,?_⟩,λx=>?_⟩
  .grind
  .show PU hl s W m=m.Β;grind [iw,PU]
  .grind [eZ]
  .rw[g3,f2,xW];have e3:Pu W.id m.a1 (du W m) x=if x=m.a1 then du W m else W.id x:=rfl;rw[e3];unfold V9;show _=W.id x+((if m.a1=x then VA s.Δ*m.n else 0)+R8 x iL);grind [Gs]
def vj{S:Ρ}{s:D6}(h:(E2 S s).1=0)(hk:¬(s.Δ=4\/s.Δ=10\/s.Δ=7\/s.Δ=9)):∃iL,(bM S s).Κ=S.Κ++iL/\Ta s.Δ (S.D8*4294967296+S.Κ.length) s.fe iL/\(∀x,(bM S s).id x=S.id x+R8 x iL)/\∀m∈s.fe,0<=m.a1/\m.a1<S.π.B5.length:=by
 have hp:=jg h;have he:=oV h;have h3:=h;rw[he] at h3;have hw:=hp.2.2.2.2.2;unfold ng at hw;rw[Ν D,Ν D] at hw;obtain⟨iL,f1,f2,f3⟩:=wF (s:=s.at (cT S)) (by show ¬(s.Δ=7\/s.Δ=9);omega) s.fe (ND S) h3 λm hm=>⟨hw.1 m hm,(hp.2.2.2.2.1 m hm).1.2.2.1⟩;refine⟨iL,?_,?_,λx=>?_,λm hm=>(hp.2.2.2.2.1 m hm).1.1⟩
 .rw[show bM S s=fC S s from Χ h];show S.Κ++(E2 S s).2.Κ=_;rw[he,f1];rfl
 .have e:eZ S.D8 S.Κ.length (ND S)=S.D8*4294967296+S.Κ.length:=by
   show S.D8*4294967296+(S.Κ.length:Int)+((0:Nat):Int)=_;omega
  rw[e] at f2;exact f2
 .rw[show bM S s=fC S s from Χ h];show(E2 S s).2.id x=_;rw[he,f3];rfl
def Uw(A:Int):Nat->List Int
 | 0=>[]
 | n+1=>A::Uw (A+1) n
theorem zw(A:Int):∀n,(Uw A n).length=n
 | 0=>rfl
 | n+1=>by rw[Uw,aK,zw (A+1) n]
def te{x:Int}:∀{n:Nat} {A:Int},x∈Uw A n->A<=x/\x<A+n
 | 0,_,h=>by cases h
 | n+1,A,h=>by
  rcases Nj h with rfl|h
  .omega
  .have:=te h
   omega
def uB:∀(n:Nat) (A:Int),(Uw A n).Nodup
 | 0,_=>dq
 | n+1,A=>List.nodup_cons.2 ⟨λh=>by have:=te h;omega,uB n (A+1)⟩
def QS(fl:List E3):ο:=(fl.filter λf=>decide (f.Δ=6)).map λf=>(f.A,0,f.n)
def rG(am:List (Int×Int))(fl:List Int):ο:=(am.zip fl).map λp=>(p.2,0,p.1.2)
theorem tC(a b:List E3):QS (a++b)=QS a++QS b:=by
 grind [QS]
theorem mJ(a b:List E3):dm (a++b)=dm a++dm b:=by
 grind [dm]
def vA{k:Int}:∀{Q:List A8} {A:Int} {iL:List E3},Ta k A Q iL->iL.map (·.A)=Uw A Q.length
 | [],_,_,h=>by rw[show _=[] from h];rfl
 | m::Q,A,_,⟨f,F',K,T,h3⟩=>by
  rw[K,aq,vA h3,T.1];rfl
def oW{k:Int}:∀{Q:List A8} {A:Int} {iL:List E3},Ta k A Q iL->∀f∈iL,f.Δ=k/\∃m∈Q,f.a1=m.a1
 | [],_,_,h,f,hf=>by rw[show _=[] from h] at hf;cases hf
 | m::Q,A,_,⟨g,F',K,T,h3⟩,f,hf=>by
  rw[K] at hf;rcases Nj hf with rfl|hf
  .exact⟨T.2.1,m,aA,T.2.2.1⟩
  .obtain⟨q1,y,q2,q3⟩:=oW h3 f hf;exact⟨q1,y,az _ q2,q3⟩
theorem CV{A:Int}{h:Int}:∀{am:List (Int×Int)} {A:Int} {iL:List E3},Ta 6 A (B2 h 0 am) iL->QS iL=rG am (iL.map (·.A))
 | [],_,_,h=>by rw[show _=[] from h];rfl
 | a::am,A,_,⟨f,F',K,T,h3⟩=>by
  have ih:=CV (A:=A) h3
  have e:QS (f::F')=(f.A,0,f.n)::QS F':=by
   unfold QS;rw[dE aj,aq]
  rw[K,e,ih,aq,T.2.2.2.1];rfl
theorem CU{to:Int}:∀{am:List (Int×Int)} {fl:List Int} {A:Int} {iL:List E3},Ta 5 A (G7 to am fl) iL->dm iL=rG am fl
 | [],fl,_,_,h=>by rw[show _=[] from h];rfl
 | a::am,[],_,_,h=>by rw[show _=[] from h];rfl
 | a::am,x::fl,A,_,⟨f,F',K,T,h3⟩=>by
  have ih:=CU (am:=am) (fl:=fl) h3
  have e:dm (f::F')=f.Β++dm F':=by
   unfold dm;rw[dE aj,aT]
  rw[K,e,ih,T.2.2.2.2 rfl];rfl
theorem Jn{iL:List E3}(h:∀f∈iL,¬f.Δ=6):QS iL=[]:=by
 grind [QS,List.filter_eq_nil_iff]
theorem zv{iL:List E3}(h:∀f∈iL,¬f.Δ=5):dm iL=[]:=by
 grind [dm,List.filter_eq_nil_iff]
theorem oX{k:Int}{Q:List A8}{A:Int}{iL:List E3}(h:Ta k A Q iL):iL.length=Q.length:=by
 have e:=congrArg List.length (vA h);grind [zw]
theorem CC:∀Q:List A8,Q.length<=C5 Q
 | []=>an _
 | m::Q=>by
  have:=CC Q
  show Q.length+1<=(m.Β.length+1)+C5 Q;omega
structure Tb (d:Int) (S:Ρ):Prop where
 W3:S.D8=d
 π:S.π.B5.length=4
 fb:S.Κ.length<=64*S.D9.length/\S.D9.length<=65536
 fk:S.Κ.length<=dg S
 id:∀x,S.id x=R8 x S.Κ
 a1:∀f∈S.Κ,0<=f.a1/\f.a1<4
structure XX (d:Int) (S S' : Ρ) (Δ:Int) (Q:List A8) (iL:List E3):Prop where
 fl:S'.Κ=S.Κ++iL
 fs:Ta Δ (d*4294967296+S.Κ.length) Q iL
 j:Tb d S'
theorem zo{d:Int}{S:Ρ}{s:D6}(hJ:Tb d S)(h:(E2 S s).1=0)(hk:¬(s.Δ=4\/s.Δ=10\/s.Δ=7\/s.Δ=9)):∃iL,XX d S (bM S s) s.Δ s.fe iL:=by
 obtain⟨iL,f1,f2,f3,f4⟩:=vj h hk;have hp:=jg h;have U:=oX f2;have hm:=hp.2.2.2.1.2
 have M:S.D9.length<65536:=by
  by_cases q:65536<=S.D9.length
  .grind [E2]
  .omega
 have B:=hJ.fb;have e1:(bM S s).D9=S.D9++[s.at (cT S)]:=by rw[show bM S s=fC S s from Χ h];rfl
 have e2:(bM S s).D8=S.D8:=by rw[show bM S s=fC S s from Χ h];rfl
 have e3:(bM S s).π=S.π:=by rw[show bM S s=fC S s from Χ h];rfl
 rw[hJ.W3] at f2;refine⟨iL,f1,f2,⟨e2.trans hJ.W3,by rw[e3];exact hJ.π,?_,?_,λx=>?_,λf hf=>?_⟩⟩
 .grind
 .have:=hJ.fk
  grind [CC,jq]
 .rw[f3,f1,Kt,hJ.id]
 .rw[f1] at hf;rcases J8 hf with hf|hf
  .exact hJ.a1 f hf
  .obtain⟨_,m,hm,e⟩:=oW f2 f hf;have:=f4 m hm
   have:=hJ.π
   omega
theorem wu{d:Int}{S:Ρ}{s:D6}(hJ:Tb d S)(hk:¬(s.Δ=4\/s.Δ=10\/s.Δ=7\/s.Δ=9))(h5:¬s.Δ=5)(h6:¬s.Δ=6):Tb d (bM S s)/\QS (bM S s).Κ=QS S.Κ/\dm (bM S s).Κ=dm S.Κ/\S.Κ.length<=(bM S s).Κ.length:=by
 by_cases h:(E2 S s).1=0
 .obtain⟨iL,hF⟩:=zo hJ h hk;refine⟨hF.j,?_,?_,?_⟩
  .rw[hF.fl,tC,Jn (iL:=iL) (λf hf=>by rw[(oW hF.fs f hf).1];exact h6),aI]
  .rw[hF.fl,mJ,zv (iL:=iL) (λf hf=>by rw[(oW hF.fs f hf).1];exact h5),aI]
  .rw[hF.fl,ay];omega
 grind [bM]
theorem GH{d:Int}{S:Ρ}{Δ E:Int}{Q:List A8}(hJ:Tb d S)(h:E6 S Δ E Q=true)(hk:¬(Δ=4\/Δ=10\/Δ=7\/Δ=9)):∃iL,XX d S (L4 S Δ E Q) Δ Q iL/\Ny S Δ E Q=Uw (d*4294967296+S.Κ.length) Q.length/\iL.map (·.A)=Ny S Δ E Q:=by
 have h0:(E2 S (H7 Δ E Q)).1=0:=by
  by_cases q:(E2 S (H7 Δ E Q)).1=0
  .exact q
  .grind [E6,bB]
 obtain⟨iL,hF⟩:=zo (s:=H7 Δ E Q) hJ h0 hk
 have e:Ny S Δ E Q=iL.map (·.A):=by
  unfold Ny km;rw[Χ h0,hF.fl,List.drop_left]
 exact⟨iL,hF,e.trans (vA hF.fs),e.symm⟩
structure Gh where
 Α:Int->Option (List lu)
 X:Int×Int->Option (List Int)
def Gh.Υ(g:Gh)(k:Int×Int):Option lu:=match g.Α k.1 with
 | some ls=>if 0<=k.2 then ls[k.2.toNat]? else none
 | none=>none
theorem lj{g ew : Gh}(h:ew.Α=g.Α)(k:Int×Int):ew.Υ k=g.Υ k:=by
 unfold Gh.Υ;rw[h]
def uw(g:Gh)(k:Int×Int):ο:=match g.Υ k with
 | some l=>match g.X k with
  | some fl=>rG l.am fl
  | none=>[]
 | none=>[]
def jX{g:Gh}{k:Int×Int}{l:lu}{fl:List Int}(K:g.Υ k=some l)(T:g.X k=some fl):uw g k=rG l.am fl:=by
 unfold uw;rw[K,T]
structure Nz (g:Gh):Prop where
 xl:∀k fl,g.X k=some fl->∃l,g.Υ k=some l/\(∀x∈fl,x / 4294967296=l.d)/\fl.Nodup
 W4:∀k k' a b,g.X k=some a->g.X k' = some b->k≠k'->∀x∈a,x∉b
structure Po (g:Gh) (d:Int) (rv:List (Int×Int)) (S:Ρ):Prop where
 K1:Tb d S
 exp:∀k l fl,g.Υ k=some l->l.d=d->g.X k=some fl->(∀y∈rG l.am fl,y∈QS S.Κ)/\∀x∈fl,x<d*4294967296+S.Κ.length
 nd:rv.Nodup
 rc:∀k∈rv,∃l fl,g.Υ k=some l/\l.ts=d/\g.X k=some fl
 imp:dm S.Κ=rv.flatMap (uw g)
structure RG (g:Gh) (d A:Int) (o:hy):Prop where
 lg:g.Υ (A,o.ω)=some o.Υ
 d:o.Υ.d=d
 x0:o.state=0->g.X (A,o.ω)=none
 x1:o.state=1->g.X (A,o.ω)=some o.Κ
structure L5 (g:Gh) (y:eU):Prop where
 pr:y.ct.Δ=1->g.Α y.ct.A=some y.ct.Z
 tr:y.ct.Δ=5->∃l,g.Υ (y.ct.A,y.ct.ω)=some l/\y.ct.Z=[l]/\l.ts=y.to/\g.X (y.ct.A,y.ct.ω)=some y.ct.Κ
def Po.keep{g:Gh}{d:Int}{rv:List (Int×Int)}{S S' : Ρ}(h:Po g d rv S)(hJ:Tb d S')(K:QS S'.Κ=QS S.Κ)(T:dm S'.Κ=dm S.Κ)(h3:S.Κ.length<=S'.Κ.length):Po g d rv S' :=
 ⟨hJ,λk l fl q1 q2 q3=>⟨by rw[K];exact(h.exp k l fl q1 q2 q3).1,λx O=>by have:=(h.exp k l fl q1 q2 q3).2 x O;omega⟩,h.nd,h.rc,by rw[T];exact h.imp⟩
def Po.XZ{g:Gh}{d:Int}{rv:List (Int×Int)}{S:Ρ}(h:Po g d rv S)(E:Int)(Q:List A8):Po g d rv (L4 S 2 E Q):=by
 obtain⟨q1,q2,q3,q4⟩:=wu (s:=H7 2 E Q) h.K1 (by show ¬((2:Int)=4\/(2:Int)=10\/(2:Int)=7\/(2:Int)=9);decide) (by show ¬(2:Int)=5;decide) (by show ¬(2:Int)=6;decide);exact h.keep q1 q2 q3 q4
def Gh.put(g:Gh)(k:Int×Int)(fl:List Int):Gh:={ g with X:=λj=>if j=k then some fl else g.X j }
theorem Gh.c7(g:Gh)(k:Int×Int)(fl:List Int):(g.put k fl).X k=some fl:=Χ rfl
theorem Gh.a8{g:Gh}{k j:Int×Int}(fl:List Int)(h:j≠k):(g.put k fl).X j=g.X j:=Ν h
def nA{α β:Type}{f f' : α->List β}:∀{l:List α},(∀x∈l,f x=f' x)->l.flatMap f=l.flatMap f'
 | [],_=>rfl
 | a::l,h=>by rw[aT,aT,h a aA,nA λx O=>h x (az _ O)]
def Po.C8{g ew : Gh}{d:Int}{rv:List (Int×Int)}{S:Ρ}(h:Po g d rv S)(hG:ew.Α=g.Α)(hm:∀k fl,g.X k=some fl->ew.X k=some fl):rv.flatMap (uw ew)=rv.flatMap (uw g):=by
 refine nA λk hk=>?_;obtain⟨l,fl,q1,q2,q3⟩:=h.rc k hk;rw[jX q1 q3,jX ((lj hG k).trans q1) (hm k fl q3)]
theorem Po.ZT{g:Gh}{d:Int}{rv:List (Int×Int)}{S:Ρ}(h:Po g d rv S)(hg:Nz g){k:Int×Int}{l:lu}(U:g.Υ k=some l)(hs:l.d=d)(hX:g.X k=none){Ι E:Int}(a9:E6 S 6 E (B2 Ι 0 l.am)=true) :
  Nz (g.put k (Ny S 6 E (B2 Ι 0 l.am)))/\Po (g.put k (Ny S 6 E (B2 Ι 0 l.am))) d rv (L4 S 6 E (B2 Ι 0 l.am)):=by
 obtain⟨iL,hF,e1,e2⟩:=GH h.K1 a9 ae;have a6:=hF.j.fb;have a3:=oX hF.fs;rw[hF.fl,ay,a3] at a6
 have M:∀x∈Ny S 6 E (B2 Ι 0 l.am),d*4294967296+S.Κ.length<=x/\x<d*4294967296+S.Κ.length+(B2 Ι 0 l.am).length:=λx O=>by
  rw[e1] at O;exact te O
 have a5:QS iL=rG l.am (Ny S 6 E (B2 Ι 0 l.am)):=by rw[<-e2];exact CV (A:=0) hF.fs
 generalize Ny S 6 E (B2 Ι 0 l.am)=fl at *;generalize L4 S 6 E (B2 Ι 0 l.am)=S' at *;have B:∀j f,g.X j=some f->(g.put k fl).X j=some f:=by grind [Gh.a8]
 have a4:∀j f,g.X j=some f->∀x∈f,x∉fl:=λj f q x O a2=>by
  obtain⟨l',p1,p2,p3⟩:=hg.xl j f q;have r1:=M x a2;have r2:=p2 x O;by_cases e:l'.d=d
  .have:=(h.exp j l' f p1 e q).2 x O
   omega
  .omega
 refine⟨⟨λj f q=>?_,λj j' a b qa qb a7 x O a2=>?_⟩,⟨hF.j,λj l' f p1 p2 p3=>?_,h.nd,λj hj=>?_,?_⟩⟩
 .by_cases e:j=k
  .subst e;rw[Gh.c7] at q;obtain rfl:=Pr q;refine⟨l,U,λx O=>?_,by rw[e1];exact uB _ _⟩;grind
  .rw[Gh.a8 fl e] at q;exact hg.xl j f q
 .by_cases ea:j=k
  .grind [Gh.c7,Gh.a8]
  .rw[Gh.a8 fl ea] at qa;by_cases eb:j' = k
   .grind [Gh.c7]
   .rw[Gh.a8 fl eb] at qb;exact hg.W4 j j' a b qa qb a7 x O a2
 .rw[hF.fl,tC,ay,a3];by_cases e:j=k
  .subst e;rw[Gh.c7] at p3;obtain rfl:=Pr p3;have e3:l' = l:=Pr (p1.symm.trans U);grind
  .rw[Gh.a8 fl e] at p3;obtain⟨r1,r2⟩:=h.exp j l' f p1 p2 p3;grind
 .obtain⟨l',f,p1,p2,p3⟩:=h.rc j hj;exact⟨l',f,p1,p2,B j f p3⟩
 .rw[hF.fl,mJ,zv (iL:=iL) (λf hf=>by rw[(oW hF.fs f hf).1];decide),aI,h.imp];exact(h.C8 (ew:=g.put k fl) rfl B).symm
theorem Po.ZU{g:Gh}{d:Int}{rv:List (Int×Int)}{S:Ρ}(h:Po g d rv S){k:Int×Int}{l:lu}{fl:List Int}(U:g.Υ k=some l)(hs:l.ts=d)(hX:g.X k=some fl)(hk:k∉rv){to E:Int}(B:E6 S 5 E (G7 to l.am fl)=true):Po g d (rv++[k]) (L4 S 5 E (G7 to l.am fl)):=by
 obtain⟨iL,hF,_,_⟩:=GH h.K1 B ae;have M:=oX hF.fs;refine⟨hF.j,λj l' f p1 p2 p3=>?_,?_,λj hj=>?_,?_⟩
 .rw[hF.fl,tC,ay];obtain⟨r1,r2⟩:=h.exp j l' f p1 p2 p3;grind
 .exact List.nodup_append.2 ⟨h.nd,List.nodup_cons.2 ⟨aG,dq⟩,λa ha b hb e=>hk (by rw[F6 hb] at e;rw[<-e];exact ha)⟩
 .rcases J8 hj with hj|hj
  .exact h.rc j hj
  grind
 .rw[hF.fl,mJ,CU hF.fs,dL,h.imp,List.flatMap_singleton,jX U hX]
