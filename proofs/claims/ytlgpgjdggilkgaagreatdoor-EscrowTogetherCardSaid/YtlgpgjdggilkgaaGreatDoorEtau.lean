/- Lemmas. -/
import Derived.Test.YtlgpgjdggilkgaaGreatDoorEtat
set_option linter.all false
set_option maxHeartbeats 8000000
namespace Go.Proofs.YtlgpgjdggilkgaaGreatDoor
section
open Go.V
attribute [local irreducible] Α GO GP δ ms GF GE Ev Ef C0 F CB GB V.Enters
abbrev DQ:=Zd [.ef 13,.ev 14]
def cm{φ ψ:Prop}(k:ψ)(h:Hid ψ->φ:=by intro k;(with_reducible apply Α.a8);first|refine Α.dr 71 7 DQ (Hid.out k)):φ:=h ⟨k⟩
def Ri{φ ψ:Prop}(k:ψ)(h:Hid ψ->φ:=by intro k;(repeat (first|refine ab ?_|intro B6|refine cm ?_));(repeat revert B6);exact Hid.out k):φ:=h ⟨k⟩
def Fo{L:Η}(b bc:Nat)(d:Int)(x:OB)(s:M0)(z:S5)(l:ο)(hm:Qu (NK z.imp x.imp) l)(U:l.length<=2000)(d4:∀y∈l,a0 y)(m:J3)[hr:F2 L m.pad h2 aL 3 m.m.Β](hp:∀p∈m.m.Β,a0 p)(hb:∀p∈m.m.Β,p.1<=9223372036854775807)(e0:m.m.Β.length<=2000) :
  Τ Θ 276 #[av bc,bF (cu m)] (G9 b bc s z (E1 b d x L)) (λv Γ=>∃u,v=J (RX d m.m.Β l)/\(RX d m.m.Β l=0->Qu (NK u x.imp) (l++m.m.Β))/\Γ = G9 b bc s { z with imp:=u } (E1 b d x L)):=by
 obtain⟨⟨Λ,to,a1,mn,Β⟩,pad,J2⟩:=m;dsimp only at hr hp hb e0 ⊢;refine Τ.bd (args:=[av bc,bF (cu ⟨⟨Λ,to,a1,mn,Β⟩,pad,J2⟩)]) ?_;simp only[cu,G9,cV,E1,cJ];refine Ri ?_;intros;rename_i b3;refine Α.loop (α:=Nat×List (Int×h1)) (λg=>g.1<=Β.length/\Qu (NK g.2 x.imp) (l++Β.take g.1)/\RX d Β l=RX d (Β.drop g.1) (l++Β.take g.1)) (λg=>[(0,av bc),(12,ah pad Β.length J2),(13,J Β.length),(14,J (g.1:Int))]) (λg=>G9 b bc s { z with imp:=g.2 } (E1 b d x (L))) (λg=>Β.length - g.1) (0,z.imp) ⟨aC _,by rw[bj,aI];exact hm,by rw[bj,aI];rfl⟩ aD (by(try simp only[G9,cV,E1,cJ]);exact ak) ?_;rintro⟨i,mp⟩ ⟨hi,a3,hg⟩;dsimp only at hi a3 hg ⊢;by_cases b1:i<Β.length
 case neg =>
  rw[bU D,aM D] at hg;rw[aM D] at a3;have d2:RX d Β l=0:=hg;rw[d2];(try simp only[G9,cV,E1,cJ]);refine Ri ?_;intros;refine KX.a8 aF ?_ ⟨mp,rfl,λ_=>a3,rfl⟩;(try simp only[G9,cV,E1,cJ]);exact ak
 have d3:(i:Int).toNat=i:=bD i;have d5 : (i:Int).toNat<Β.length:=D;have e1:Β[(i:Int).toNat]! = Β[i]!:=by rw[d3]
 have b5:l++Β.take (i+1)=l++Β.take i++[Β[(i:Int).toNat]!]:=by rw[e1,aB b1,D7 b1,aH]
 have d6:(l++Β.take i).length<=4000:=by rw[ay,aP];omega
 have b0:∀y∈l++Β.take i,a0 y:=λy Y=>by
  rcases J8 Y with q|q
  .exact d4 y q
  .exact hp y (cp q)
 have c6:=hb _ (bA b1);have a4:=hp _ (bA b1);rw[<-e1] at c6 a4;rw[ke b1,qP,<-e1] at hg;rw[<-b5] at hg;have b9:RX d Β l≠0->(RX d Β l=0->Qu (NK mp x.imp) (l++Β)):=λh q=>hD q h;obtain⟨p,d0⟩:∃p,Β[(i:Int).toNat]! = p:=⟨_,rfl⟩;rw[d0] at c6 a4 hg b5;clear e1;have c0:=a4;unfold a0 at c0;have a9:=Ij a3 b0 a4;(try simp only[G9,cV,E1,cJ]);refine Ri ?_;intros;rw[d0];simp only[aL];refine Ri ?_;intros;by_cases c1:p.1 / 4294967296=d
 .rw[Χ (.inl c1)] at hg;rw[hg] at b9 ⊢;refine Ri ?_;intros;exact KX.a8 aF (by(try simp only[G9,cV,E1,cJ]);exact ak) ⟨mp,rfl,λh=>hD h ae,rfl⟩
 by_cases c2:11<p.1 / 4294967296
 .rw[Χ (.inr c2)] at hg;rw[hg] at b9 ⊢;refine Ri ?_;intros;exact KX.a8 aF (by(try simp only[G9,cV,E1,cJ]);exact ak) ⟨mp,rfl,λh=>hD h ae,rfl⟩
 rw[Ν (λq=>q.elim c1 c2)] at hg;refine Ri ?_;intros;refine δ.cr (Dn (z:=mp) (x:=x.imp) p.1) ?_;have b4:=a3.ok p.1;have a7:=a3.cap p.1;have e3:=a3.len p.1;have a6:=λ (h:¬ ∃y∈(NK mp x.imp p.1).C8,¬apart y p) (ys:ο) (Y:gW Q4 ((NK mp x.imp p.1).C8++[p]) ys) (s' : h1) (K:s'.C8=N5 ys) (T:(N5 ys).length<=s'.cap)=>Ik (ew:=NK (cZ mp p.1 s') x.imp) a3 b0 a4 h Y (by rw[oI,Χ rfl,K]) (by rw[oI,Χ rfl];exact T) (λf e=>by rw[oI,Ν e]);have b2:=λε:Η=>vb (z:=mp) (x:=x.imp) p.1 (L:=ε);generalize NK mp x.imp p.1=sk at *;obtain⟨K0,Qq,B⟩:=sk;dsimp only at b4 a7 e3 a6 a9
 have d1:∀y∈B++[p],a0 y:=λy Y=>by
  rcases J8 Y with q|q
  .exact b4.ok y q
  .rw[F6 q];exact a4
 simp only[h1.v];refine Ri ?_;intros;rename_i b6 bl;refine GO.cL (Γ:=[ξ aL 3 (some ⟨bl,0,none⟩) [p],ξ aL 3 K0 B]++(ξ aL 3 K0 B::G9 b bc s { z with imp:=mp } (E1 b d x (obj b6 I7 (aL p)::L)))) ?_ ?_
 .refine(F.at (Ο:=obj bl I7 [J p.1,J p.2.1,J p.2.2]) (F.d9 (Ε:=aL) (sz:=3) (I:=[p]) (n:=1) rfl rfl (λ_ _=>rfl) ae)).trans (F.N9.trans ?_);refine(F.at (Ο:=Ψ (λp:Int×h1=>G8 p.2) mp) (F.refl _)).trans ?_;refine(F.c7 (F.at (Ο:=Ψ (λp:Int×h1=>G8 p.2) x.imp) (F.refl _))).trans ?_;refine(b2 _).trans ?_;refine F.trans (show F (G8 ⟨K0,Qq,B⟩::_) (ξ aL 3 K0 B::_) from F.refl _) ?_;refine(F.dup (cQ _ _ _ _).RQ).trans ?_;simp only[G9,cV,E1,cJ,aL,au,ax];exact ak
 simp only[au,ax];(first|refine GO.ef (Ef.call (Hr (some ⟨bl,0,none⟩) 1 [p] K0 Qq B (by rw[aX];decide) D (λy Y=>by rw[F6 Y];exact a4) b4) rfl fQ) ae ?_);rintro _ _⟨_,⟨e4,e6,e5,e7,rfl,rfl⟩,hL⟩;simp only[au,ax] at hL;subst hL;have c4:=KH b4 a4;generalize hpi:(Up [p] B).length=pn at c4;refine Ri ?_;intros;by_cases c3:∃y∈B,¬apart y p
 .have e2:=c4.2 c3;rw[Χ (a9.1 c3)] at hg;rw[hg] at b9 ⊢;(try simp only[G9,cV,E1,cJ]);refine Ri ?_;intros;exact KX.a8 aF (by(try simp only[G9,cV,E1,cJ]);exact ak) ⟨mp,rfl,λh=>hD h ae,rfl⟩
 have e2:¬0<pn:=λq=>c3 (c4.1 q);rw[Ν (λq=>c3 (a9.2 q))] at hg;repeat first|refine Α.sn 11 ?_|refine dA ?_|intro _|refine cm ?_
 refine Α.cL (Γ:=PR aL 3 I7 K0 B.length B::obj b6 I7 [J p.1,J p.2.1,J p.2.2]::G9 b bc s { z with imp:=mp } (E1 b d x (L))) ?_ ?_
 .refine(F.at (Ο:=ξ aL 3 K0 B) (F.n9 (η:=I7) (by simp only[maxLen];omega))).trans ?_;(try simp only[G9,cV,E1,cJ,aL]);exact ak
 .skip;simp only[G9,cV,E1,cJ];refine Α.f5 mixed Ζ ?_;refine GF.M8 (i:=0) rfl Ζ (Ev.move rfl) ae ?_;refine GF.M8 (i:=1) rfl Ζ (Ev.nilCheck rfl) ae ?_;refine GF.M8 (i:=2) rfl Ζ (by first|exact Ev.fieldAddr rfl|exact Ev.f7 rfl) ae ?_;refine GF.Ob (i:=3) rfl Ζ (by first|exact Ev.d8 rfl rfl|exact Ev.c9 rfl bh|exact Ev.c8 rfl rfl|exact Ev.d9 rfl D|exact Ev.f5 rfl D ae rfl) ae ?_;refine GF.M8 (i:=4) rfl Ζ (by first|exact Ev.fieldAddr rfl|exact Ev.f7 rfl) ae ?_;refine GF.Ob (i:=5) rfl Ζ (by first|exact Ev.d8 rfl rfl|exact Ev.c9 rfl bh|exact Ev.c8 rfl rfl|exact Ev.d9 rfl D|exact Ev.f5 rfl D ae rfl) ae ?_;refine GF.M8 (i:=6) rfl Ζ (Ev.move rfl) ae ?_;refine GF.Ob (i:=8) rfl Ζ (by first|exact Ev.d8 rfl rfl|exact Ev.c9 rfl bh|exact Ev.c8 rfl rfl|exact Ev.d9 rfl D|exact Ev.f5 rfl D ae rfl) ae ?_;refine GF.a8 7 9 Ζ ?_ ?_
  .refine GE.ef rfl (Ef.d8 (rb K0 B.length Qq a7) rfl) ae ?_;rintro _ _⟨rfl,rfl⟩;refine⟨(by intro pe hp;simp only[fI,aG,or_false] at hp;rcases hp with rfl|rfl|rfl<;>first|exact Ev.d8 rfl rfl|exact Ev.c9 rfl bh|exact Ev.c8 rfl rfl),?_⟩;refine GF.wk [.ef 9,.ef 10,.ef 11,.ef 12] Ζ rfl ?_;refine Ri ?_;intros;refine δ.ef (Ef.k9 (Ε:=aL) (e:=p) rfl rfl rfl rfl rfl bh (fX _) D D) ae ?_;rintro _ _⟨b7,a5,rfl,rfl⟩;refine Ri ?_;intros;refine δ.ca (qu b7 (B++[p]).length a5 (B++[p]) rfl (by rw[ay,aX];omega) d1) ?_;rintro _ _⟨a2,M,ys,rfl,c5,rfl⟩;refine Ri ?_;intros;refine δ.VZ (mW (ad:=a2) (cap:=M) (I:=N5 ys) (Ε:=aL) (sz:=3) (η:=I7)) ?_;rintro⟨b8,_⟩;refine δ.NH (Ef.d9 (Ε:=h1.v) (e:=(⟨a2,M,N5 ys⟩:h1)) rfl rfl rfl rfl) ?_;rintro _ _⟨rfl,rfl⟩;refine Ri ?_;intros;refine⟨(i+1,cZ mp p.1 ⟨a2,M,N5 ys⟩),⟨by dsimp only;omega,by dsimp only;rw[b5];exact a6 c3 ys c5 ⟨a2,M,N5 ys⟩ rfl b8,hg⟩,by dsimp only;omega,by dsimp only;rw[bC i];exact aD,?_⟩;refine(F.Sf a2).trans ?_;refine(F.at (Ο:=Ψ (λp:Int×h1=>G8 p.2) mp) (F.refl _)).trans ?_;refine(F.at (Ο:=ξ aL 3 a2 (N5 ys)) (rI (s:=⟨a2,M,N5 ys⟩) (k:=p.1))).trans ?_;simp only[G9,cV,E1,cJ];exact ak
  .refine GE.ef rfl (Ef.lit rfl rfl ae rfl) ae ?_;rintro _ _⟨bm,rfl,rfl⟩;refine⟨(by intro pe hp;simp only[fI,aG,or_false] at hp;rcases hp with rfl|rfl|rfl<;>first|exact Ev.d8 rfl rfl|exact Ev.c9 rfl bh|exact Ev.c8 rfl rfl),?_⟩;refine GF.wk [.ef 7,.ef 10,.ef 11,.ef 12] Ζ rfl ?_;refine Ri ?_;intros;refine δ.cr (rb K0 B.length Qq a7) ?_;refine Ri ?_;intros;refine δ.ef (Ef.k9 (Ε:=aL) (e:=p) rfl rfl rfl rfl rfl bh (fX _) D D) ae ?_;rintro _ _⟨b7,a5,rfl,rfl⟩;refine Ri ?_;intros;refine δ.ca (qu b7 (B++[p]).length a5 (B++[p]) rfl (by rw[ay,aX];omega) d1) ?_;rintro _ _⟨a2,M,ys,rfl,c5,rfl⟩;refine Ri ?_;intros;refine δ.VZ (mW (ad:=a2) (cap:=M) (I:=N5 ys) (Ε:=aL) (sz:=3) (η:=I7)) ?_;rintro⟨b8,_⟩;refine δ.NH (Ef.d9 (Ε:=h1.v) (e:=(⟨a2,M,N5 ys⟩:h1)) rfl rfl rfl rfl) ?_;rintro _ _⟨rfl,rfl⟩;refine Ri ?_;intros;refine⟨(i+1,cZ mp p.1 ⟨a2,M,N5 ys⟩),⟨by dsimp only;omega,by dsimp only;rw[b5];exact a6 c3 ys c5 ⟨a2,M,N5 ys⟩ rfl b8,hg⟩,by dsimp only;omega,by dsimp only;rw[bC i];exact aD,?_⟩;refine(F.Sf a2).trans ?_;refine(F.at (Ο:=Ψ (λp:Int×h1=>G8 p.2) mp) (F.refl _)).trans ?_;refine(F.at (Ο:=ξ aL 3 a2 (N5 ys)) (rI (s:=⟨a2,M,N5 ys⟩) (k:=p.1))).trans ?_;simp only[G9,cV,E1,cJ];exact ak
abbrev Bd:=Zc [.ev 10]
abbrev Bc:=Zc []
def RB{φ ψ:Prop}(k:ψ)(h:Hid ψ->φ:=by intro k;(repeat (first|refine ab ?_|intro B6|refine Α.dr 33 2 Bd ?_|refine Α.dr 33 5 Bc ?_));(repeat revert B6);exact Hid.out k):φ:=h ⟨k⟩
def rW{L R1 R2 R3 R4:Η}{b bc:Nat}{d:Int}{x:OB}{s:M0}{z:S5}[B:PO L b Tp (cJ d x) R1][M:PO L bc Ww (cV b s z) R2][a2:QD L z.cs (Int×Int) h1 D5 h1.v z.ν R3][a3:QD L x.Q (Int×Int) h1 D5 h1.v x.ν R4](a i:Int) :
  Τ Θ 194 #[av bc,J a,J i] L (F3 ((NK z.ν x.ν (a,i)).v) L):=by
 refine Τ.bd ?_;refine RB ?_;intros;refine δ.Ob (Ev.a8 rfl rfl) ae ?_;cases h:@List.lookup _ _ instBEqOfDecidableEq (a,i) z.ν with
 | some k =>
  simp only[fm,Option.getD_some,Option.isSome_some];refine RB ?_;intros;refine KX.a8 aF ak ⟨?_,rfl⟩;unfold NK ζ;rw[h];rfl
 | none =>
  simp only[ik,Option.getD_none,Option.isSome_none];refine RB ?_;intros;refine δ.Ob (Ev.j5 rfl rfl) ae ?_;rw[vd];refine RB ?_;intros;refine KX.a8 aF ak ⟨?_,rfl⟩;unfold NK ζ;rw[h];rfl
structure Zv (x:OB) (z:S5) (m:A8):Prop where
 a1:0<=m.a1/\m.a1<x.π.B5.length
 n:0<=m.n/\m.n<=1099511627776
 pv:ip m.Β
 pa:L7 m.Β
 sv:ip (NK z.ν x.ν (m.Λ,m.a1)).C8
 sa:L7 (NK z.ν x.ν (m.Λ,m.a1)).C8
def nF(jC:ο)(m:A8):Prop:=if m.Β=[] then aY jC<m.n else ¬kE m.Β jC
def xk(mixed:Bool)(jC:ο)(m:A8):ο:=if m.Β=[] then nj mixed jC m.n else m.Β
def FA(mixed:Bool)(jC:ο)(m:A8):ο:=if m.Β=[] then jH mixed jC m.n else jh jC m.Β
abbrev Bb:=Zd [.ev 13,.ev 14,.ev 15,.ef 16,.ev 17,.ev 18,.ev 19,.ev 20,.ev 21,.ev 22,.ev 23]
abbrev Ba:=Za [.ef 6]
abbrev yw:=Zb [.ef 8,.ef 9]
def RF{φ ψ:Prop}(k:ψ)(h:Hid ψ->φ:=by intro k;(repeat (first|refine ab ?_|intro B6|refine Α.dr 73 4 Bb ?_|refine Α.dr 73 7 Ba ?_|refine Α.dr 73 11 yw ?_));(repeat revert B6);exact Hid.out k):φ:=h ⟨k⟩
def uZ{L:Η}(b bc:Nat)(d:Int)(x:OB)(s:M0)(z:S5)(m:J3)(h:Zv x z m.m)(hT:Ug (cW x m.m.a1))(b8:x.π.B5.length<=64)(a9:m.m.Β=[]) :
  Τ Θ 275 #[av bc,bF (cu m)] (ξ aL 3 m.pad m.m.Β::G9 b bc s z (E1 b d x L)) (λv Γ =>
   (nF (NK z.ν x.ν (m.m.Λ,m.m.a1)).C8 m.m/\v=.tuple #[ah none 0 0,J 10]/\Γ = G9 b bc s z (E1 b d x L)) \/
   (¬nF (NK z.ν x.ν (m.m.Λ,m.m.a1)).C8 m.m/\∃pad J2 sk,v=.tuple #[ah pad (xk (cW x m.m.a1) (NK z.ν x.ν (m.m.Λ,m.m.a1)).C8 m.m).length J2,J 0]/\sk.C8=FA (cW x m.m.a1) (NK z.ν x.ν (m.m.Λ,m.m.a1)).C8 m.m /\
    Γ = ξ aL 3 pad (xk (cW x m.m.a1) (NK z.ν x.ν (m.m.Λ,m.m.a1)).C8 m.m)::G9 b bc s { z with ν:=cZ z.ν (m.m.Λ,m.m.a1) sk } (E1 b d x L))):=by
 obtain⟨⟨b2,b4⟩,⟨a6,a7⟩,b0,b5,a4,b1⟩:=h;have b6:=b0.2;obtain⟨⟨Λ,to,a1,mn,Β⟩,M,a2⟩:=m;dsimp only at b2 b4 a6 a7 b0 b5 a4 b1 b6 hT a9 ⊢;refine Τ.bd (args:=[av bc,bF (cu ⟨⟨Λ,to,a1,mn,Β⟩,M,a2⟩)]) ?_;refine Α.cL (Γ:=G8 (NK z.ν x.ν (Λ,a1))::ξ dI 7 x.π.I2 x.π.B5::ξ aL 3 M Β::G9 b bc s z (E1 b d x L)) ?_ ?_
 .simp only[G9,E1];refine(F.at (Ο:=Oz x.π) Ws).trans ?_;refine(F.at (Ο:=Ψ (λp:(Int×Int)×h1=>G8 p.2) z.ν) (F.refl _)).trans ?_;refine(F.c7 (F.at (Ο:=Ψ (λp:(Int×Int)×h1=>G8 p.2) x.ν) (F.refl _))).trans ?_;refine(vb (Λ,a1)).trans ?_;exact ak
 simp only[G9,E1,cu];refine RF ?_;intros;rename_i b3;refine GO.cr (rW (b:=b) (d:=d) (x:=x) (s:=s) (z:=z) Λ a1) ?_;generalize hsk:NK z.ν x.ν (Λ,a1)=sk at *;obtain⟨K0,Qq,B⟩:=sk;dsimp only at a4 b1 ⊢;have b7:=a4.2;simp only[h1.v];subst a9;have eB:nF B ⟨Λ,to,a1,mn,[]⟩↔aY B<mn:=by unfold nF;rw[Χ rfl]
 have eP:xk (cW x a1) B ⟨Λ,to,a1,mn,[]⟩=nj (cW x a1) B mn:=Χ rfl;have eL:FA (cW x a1) B ⟨Λ,to,a1,mn,[]⟩=jH (cW x a1) B mn:=Χ rfl;rw[eB,eP,eL];refine RF ?_;intros;refine δ.cL (F.at (Ο:=G8 ⟨K0,Qq,B⟩) (F.refl _)) ?_;refine δ.ca (hT.tri _ K0 Qq B mn b7 a4.1 a6 a7) ?_;rintro _ _ (⟨K,rfl,rfl⟩|⟨K,a5,c1,a3,c2,rfl,rfl⟩)
 .refine RF ?_;intros;exact KX.en (.inl ⟨K,rfl,rfl⟩)
 .refine RF ?_;intros;refine δ.NH (Ef.d9 (Ε:=h1.v) (e:=(⟨a3,c2,jH (cW x a1) B mn⟩:h1)) rfl rfl rfl rfl) ?_;rintro _ _ rfl;refine RF ?_;intros;refine KX.a8 aF ?_ (.inr ⟨D,a5,c1,⟨a3,c2,jH (cW x a1) B mn⟩,rfl,rfl,rfl⟩);refine(F.Sf a5).trans ((F.Sf a3).trans ?_);refine(F.at (Ο:=Ψ (λp:(Int×Int)×h1=>G8 p.2) z.ν) (F.refl _)).trans ?_;refine(F.at (Ο:=G8 ⟨a3,c2,jH (cW x a1) B mn⟩) (rI (k:=(Λ,a1)))).trans ?_;exact ak
structure UY (x:OB) (z:S5) (fl:List E3) (W:Wk):Prop where
 ν:∀a i,(NK z.ν x.ν (a,i)).C8=W.ν a i
 id:∀i,(ζ z.id i).getD ((ζ x.id i).getD 0)=W.id i
 Κ:z.Κ.map Pv.m=W.Κ
 Oi:z.Oi=W.Oi
 imp:Qu (NK z.imp x.imp) (dm (fl++W.Κ))
 ret:Qu (NK z.ret x.ret) (jM (fl++W.Κ))
structure XI (x:OB) (fl:List E3) (W:Wk) (s:D6) (m:A8) (hl:Int->Bool) (ν:List ((Int×Int)×h1)) (imp ret:List (Int×h1)):Prop where
 ν:∀a i,(NK ν x.ν (a,i)).C8=NI hl W m a i
 imp:Qu (NK imp x.imp) (dm (fl++W.Κ)++UW s m)
 ret:Qu (NK ret x.ret) (jM (fl++W.Κ)++UX s m)
def LH{d:Int}{fl:List E3}{s:D6}{W:Wk}{m:A8}(h:¬m.Λ=0):N4 d fl s W m≠0↔nF (W.ν m.Λ m.a1) m:=by
 unfold N4 nF;rw[Ν h];split
 .split
  .exact⟨λ_=>by assumption,λ_=>by decide⟩
  .exact⟨λq=>hD rfl q,λq=>by contradiction⟩
 .split
  .exact⟨λq=>hD rfl q,λq=>by contradiction⟩
  .exact⟨λ_=>by assumption,λ_=>by decide⟩
def HW{d:Int}{fl:List E3}{s:D6}{W:Wk}{m:A8}(h:¬m.Λ=0)(hb:nF (W.ν m.Λ m.a1) m):N4 d fl s W m=10:=by
 unfold nF at hb;unfold N4;rw[Ν h];split
 .rename_i hp;rw[Χ hp] at hb;rw[Χ hb]
 .rename_i hp;rw[Ν hp] at hb;rw[Ν hb]
abbrev AZ:List K4:=[.ev 0,.ev 1,.ev 3,.ev 4,.ef 2,.ef 5,.ev 6,.ev 7]
abbrev AY:List K4:=[.ev 0,.ev 1,.ev 3,.ev 4,.ef 2,.ef 5,.ev 6,.ev 7]
def RK{φ ψ:Prop}(k:ψ)(h:Hid ψ->φ:=by intro k;(repeat (first|refine ab ?_|intro B6|refine Α.dr 35 5 AZ ?_|refine Α.dr 35 7 AY ?_));(repeat revert B6);exact Hid.out k):φ:=h ⟨k⟩
def Dq{L:Η}(b bc:Nat)(d:Int)(x:OB)(s:M0)(z:S5)(m:J3)(W:Wk)(fl:List E3)(k:Nat)(d0:x.Κ.map Pv.m=fl)(hW:UY x z fl W)(hA:SY d fl k W)(hm:SI s.Δ m.m)(hk:k+m.m.Β.length<=2000)(b4:0<=m.m.a1/\m.m.a1<x.π.B5.length)(hb:∀p∈m.m.Β,p.1<=9223372036854775807)(c3:PF s.Δ)(b6:¬s.Δ=5->m.m.Β=[])(hT:∀mx,Ug mx)(c0:x.π.B5.length<=64) :
  Τ Θ 193 #[av bc,bF (cu m)] (ξ aL 3 m.pad m.m.Β::G9 b bc s z (E1 b d x L)) (λv Γ =>
   (N4 d (fl++W.Κ) s.m W m.m≠0/\∃pd n c z',v=.tuple #[ah pd n c,J (N4 d (fl++W.Κ) s.m W m.m)]/\Γ = G9 b bc s z' (E1 b d x L)) \/
   (N4 d (fl++W.Κ) s.m W m.m=0/\∃pad J2 a7 B a6,v=.tuple #[ah pad (PU (cW x) s.m W m.m).length J2,J 0]/\XI x fl W s.m m.m (cW x) a7 B a6 /\
    Γ = ξ aL 3 pad (PU (cW x) s.m W m.m)::G9 b bc s { z with ν:=a7,imp:=B,ret:=a6 } (E1 b d x L))):=by
 have a3:=hm.g.C8;have c2:=hA.il;have b0:=GS hA.fa;have a4:=hW.ν m.m.Λ m.m.a1;obtain⟨⟨Λ,to,a1,mn,Β⟩,a2,M⟩:=m;have b1:=hm.g.n;dsimp only at hm hk b4 hb a3 a4 b1 b6 ⊢;refine Τ.bd (args:=[av bc,bF (cu ⟨⟨Λ,to,a1,mn,Β⟩,a2,M⟩)]) ?_;by_cases h0:Λ=0
 .subst h0;have a5:NI (cW x) W ⟨0,to,a1,mn,Β⟩=W.ν:=by unfold NI;rw[Χ rfl]
  have eS:s.m.Δ=s.Δ:=rfl;by_cases h5:s.Δ=5
  .have eE:N4 d (fl++W.Κ) s.m W ⟨0,to,a1,mn,Β⟩=Uj d (fl++W.Κ) Β:=by unfold N4;rw[Χ rfl,Χ (show s.m.Δ=5 from h5)]
   have eP:PU (cW x) s.m W ⟨0,to,a1,mn,Β⟩=Β:=by unfold PU;rw[Χ rfl,Χ (.inl h5)]
   have eI:UW s.m ⟨0,to,a1,mn,Β⟩=Β:=Χ h5;have eR:UX s.m ⟨0,to,a1,mn,Β⟩=[]:=Ν D;have c4:=hm.st (.inl h5);have b9:∀B,Qu (NK B x.imp) (dm (fl++W.Κ)++Β)->XI x fl W s.m ⟨0,to,a1,mn,Β⟩ (cW x) z.ν B z.ret:=λB hi=>⟨λa i=>by rw[a5];exact hW.ν a i,by rw[eI];exact hi,by rw[eR,aI];exact hW.ret⟩;rw[eE,eP,<-KZ hA.fa a3 c4.2.1];simp only[G9,E1,cu];refine RK ?_;intros;rename_i b3;refine δ.ca (jx a2 Β.length M Β rfl D) ?_;rintro _ _⟨a9,c1,rfl,rfl⟩;refine RK ?_;intros;refine δ.cL (Γ:=G9 b bc s z (E1 b d x (ξ aL 3 a2 Β::Ω aL 3 I7 a9 c1 Β::obj b3 OY [J 0,J to,J a1,J mn,ah a2 Β.length M]::L))) (by simp only[G9,E1];exact ak) ?_;refine δ.ca (Fo b bc d x s z (dm (fl++W.Κ)) hW.imp D b0 ⟨⟨0,to,a1,mn,Β⟩,a2,M⟩ a3 hb uQ) ?_;rintro _ _⟨B,rfl,b2,rfl⟩;dsimp only at b2 ⊢;simp only[G9,E1];by_cases he:RX d Β (dm (fl++W.Κ))=0
   .rw[he];refine RK ?_;intros;refine KX.a8 aF ?_ (.inr ⟨rfl,a9,c1,z.ν,B,z.ret,rfl,b9 B (b2 he),rfl⟩);refine(F.Sf a9).trans ?_;exact ak
   .refine RK ?_;intros;exact KX.a8 aF (by simp only[G9,E1];exact ak) (.inl ⟨he,a9,Β.length,c1,{ z with imp:=B },rfl,rfl⟩)
  have b8:¬s.Δ=9:=by unfold PF at c3;omega
  have eE:N4 d (fl++W.Κ) s.m W ⟨0,to,a1,mn,Β⟩=0:=by unfold N4;rw[Χ rfl,Ν (show ¬s.m.Δ=5 from h5),Ν (show ¬s.m.Δ=9 from b8)]
  have eP:PU (cW x) s.m W ⟨0,to,a1,mn,Β⟩=[]:=by unfold PU;rw[Χ rfl,Ν D]
  have eI:UW s.m ⟨0,to,a1,mn,Β⟩=[]:=Ν h5;have eR:UX s.m ⟨0,to,a1,mn,Β⟩=[]:=Ν D;simp only[G9,E1,cu];rw[eE,eP];refine RK ?_;intros;refine KX.a8 aF ?_ (.inr ⟨rfl,none,0,z.ν,z.imp,z.ret,rfl,⟨λa i=>by rw[a5];exact hW.ν a i,by rw[eI,aI];exact hW.imp,by rw[eR,aI];exact hW.ret⟩,rfl⟩);refine F.trans ?_ (F.f5 aL 3 none);exact ak
 have eI:UW s.m ⟨Λ,to,a1,mn,Β⟩=[]:=Ν (λq=>h0 (hm.imp q));have eR:UX s.m ⟨Λ,to,a1,mn,Β⟩=[]:=Ν (λq=>h0 q.2);have hG:=hA.g.ν Λ a1;have c6:=hG.len;have b5:Β=[]:=b6 λq=>h0 (hm.imp q);have b7:ip Β/\L7 Β:=by rw[b5];exact⟨⟨(λx O=>by cases O),by decide⟩,List.Pairwise.nil⟩
 refine RK ?_;intros;refine GO.cL F.drop ?_;refine GO.ca (uZ b bc d x s z ⟨⟨Λ,to,a1,mn,Β⟩,a2,M⟩ ⟨b4,⟨by have:=b1.1;dsimp only;omega,b1.2⟩,b7.1,b7.2,by rw[a4];exact⟨hG.C8,D⟩,by rw[a4];exact hG.Uk⟩ (hT _) c0 b5) ?_;dsimp only;rw[a4];rintro _ _ (⟨K,rfl,rfl⟩|⟨K,pad,J2,sk,rfl,c5,rfl⟩)
 .have e:=HW (d:=d) (fl:=fl++W.Κ) (s:=s.m) (W:=W) (m:=⟨Λ,to,a1,mn,Β⟩) h0 K;rw[e];refine RK ?_;intros;exact KX.a8 aF (F.refl _) (.inl ⟨by decide,none,0,0,z,rfl,rfl⟩)
 .have eE:N4 d (fl++W.Κ) s.m W ⟨Λ,to,a1,mn,Β⟩=0:=Classical.byContradiction λq=>K ((LH h0).1 q);have eP:PU (cW x) s.m W ⟨Λ,to,a1,mn,Β⟩=xk (cW x a1) (W.ν Λ a1) ⟨Λ,to,a1,mn,Β⟩:=by unfold PU;rw[Ν h0];rfl
  rw[eE,eP];refine RK ?_;intros;refine KX.a8 aF (F.refl _) (.inr ⟨rfl,pad,J2,cZ z.ν (Λ,a1) sk,z.imp,z.ret,rfl,⟨?_,by rw[eI,aI];exact hW.imp,by rw[eR,aI];exact hW.ret⟩,rfl⟩);intro a i;rw[oI];unfold NI Qf;rw[Ν h0];by_cases hq:a=Λ/\i=a1
  .obtain⟨rfl,rfl⟩:=hq;rw[Χ rfl,Χ ⟨rfl,rfl⟩,c5];rfl
  .rw[Ν (λh=>hq (by simpa using h)),Ν hq];exact hW.ν a i
