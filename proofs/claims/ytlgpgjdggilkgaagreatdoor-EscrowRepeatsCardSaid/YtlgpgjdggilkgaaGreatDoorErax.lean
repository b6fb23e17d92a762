/- Lemmas. -/
import Derived.Test.YtlgpgjdggilkgaaGreatDoorEraw
set_option linter.all false
set_option maxHeartbeats 4000000
namespace Go.Proofs.YtlgpgjdggilkgaaGreatDoor
section
open Go.V
attribute [local irreducible] Δ R GP Ο h2 GF GE O Ef A8 A CB GB V.Enters
abbrev xV:=Ux [.ev 10]
abbrev xU:=Ux []
def Mm{φ ψ:Prop}(k:ψ)(h:Hid ψ->φ:=by intro k;(repeat (first|refine aa ?_|intro sh|refine Δ.dr 33 2 xV ?_|refine Δ.dr 33 5 xU ?_));(repeat revert sh);exact Hid.out k):φ:=h ⟨k⟩
def pS{L R1 R2 R3 R4:LH}{b bc:Nat}{d:Int}{x:Jl}{s:E8}{z:Ny}[r:KP L b MR (bV d x) R1][I:KP L bc Q0 (cC b s z) R2][a2:KQ L z.cs (Int×Int) ey B7 ey.v z.ο R3][a3:KQ L x.T (Int×Int) ey B7 ey.v x.ο R4](a i:Int) :
  Λ Ε 194 #[al bc,E a,E i] L (C9 ((I7 z.ο x.ο (a,i)).v) L):=by
 refine Λ.bd ?_;refine Mm ?_;intros;refine Ο.Js (O.a8 rfl rfl) ac ?_;cases h:@List.lookup _ _ instBEqOfDecidableEq (a,i) z.ο with
 | some k =>
  simp only[dM,Option.getD_some,Option.isSome_some];refine Mm ?_;intros;refine KX.a8 aw ag ⟨?_,rfl⟩;unfold I7 dV;rw[h];rfl
 | none =>
  simp only[gF,Option.getD_none,Option.isSome_none];refine Mm ?_;intros;refine Ο.Js (O.j5 rfl rfl) ac ?_;rw[rY];refine Mm ?_;intros;refine KX.a8 aw ag ⟨?_,rfl⟩;unfold I7 dV;rw[h];rfl
structure TR (x:Jl) (z:Ny) (m:A9):Prop where
 aT:0<=m.aT/\m.aT<x.ζ.B5.length
 n:0<=m.n/\m.n<=1099511627776
 pv:gH m.Ζ
 pa:Iu m.Ζ
 sv:gH (I7 z.ο x.ο (m.Ψ,m.aT)).C0
 sa:Iu (I7 z.ο x.ο (m.Ψ,m.aT)).C0
def lS(h1:LL)(m:A9):Prop:=if m.Ζ=[] then dU h1<m.n else ¬jB m.Ζ h1
def tW(mixed:Bool)(h1:LL)(m:A9):LL:=if m.Ζ=[] then lE mixed h1 m.n else m.Ζ
def Ct(mixed:Bool)(h1:LL)(m:A9):LL:=if m.Ζ=[] then iO mixed h1 m.n else iw h1 m.Ζ
abbrev xS:=Uy [.ev 13,.ev 14,.ev 15,.ef 16,.ev 17,.ev 18,.ev 19,.ev 20,.ev 21,.ev 22,.ev 23]
abbrev xR:=Uv [.ef 6]
abbrev vh:=Uw [.ef 8,.ef 9]
def Mq{φ ψ:Prop}(k:ψ)(h:Hid ψ->φ:=by intro k;(repeat (first|refine aa ?_|intro sh|refine Δ.dr 73 4 xS ?_|refine Δ.dr 73 7 xR ?_|refine Δ.dr 73 11 vh ?_));(repeat revert sh);exact Hid.out k):φ:=h ⟨k⟩
def rU{L:LH}(b bc:Nat)(d:Int)(x:Jl)(s:E8)(z:Ny)(m:G0)(h:TR x z m.m)(hT:OT (cD x m.m.aT))(b8:x.ζ.B5.length<=64)(a9:m.m.Ζ=[]) :
  Λ Ε 275 #[al bc,bh (bJ m)] (ε aI 3 m.pad m.m.Ζ::F1 b bc s z (B1 b d x L)) (λv Y =>
   (lS (I7 z.ο x.ο (m.m.Ψ,m.m.aT)).C0 m.m/\v=.tuple #[ae none 0 0,E 10]/\Y = F1 b bc s z (B1 b d x L)) \/
   (¬lS (I7 z.ο x.ο (m.m.Ψ,m.m.aT)).C0 m.m/\∃pad F6 sk,v=.tuple #[ae pad (tW (cD x m.m.aT) (I7 z.ο x.ο (m.m.Ψ,m.m.aT)).C0 m.m).length F6,E 0]/\sk.C0=Ct (cD x m.m.aT) (I7 z.ο x.ο (m.m.Ψ,m.m.aT)).C0 m.m /\
    Y = ε aI 3 pad (tW (cD x m.m.aT) (I7 z.ο x.ο (m.m.Ψ,m.m.aT)).C0 m.m)::F1 b bc s { z with ο:=fc z.ο (m.m.Ψ,m.m.aT) sk } (B1 b d x L))):=by
 obtain⟨⟨b2,b4⟩,⟨a6,a7⟩,b0,b5,a4,b1⟩:=h;have b6:=b0.2;obtain⟨⟨Ψ,to,aT,mn,Ζ⟩,I,a2⟩:=m;dsimp only at b2 b4 a6 a7 b0 b5 a4 b1 b6 hT a9 ⊢;refine Λ.bd (args:=[al bc,bh (bJ ⟨⟨Ψ,to,aT,mn,Ζ⟩,I,a2⟩)]) ?_;refine Δ.υ (Y:=E7 (I7 z.ο x.ο (Ψ,aT))::ε de 7 x.ζ.F3 x.ζ.B5::ε aI 3 I Ζ::F1 b bc s z (B1 b d x L)) ?_ ?_
 .simp only[F1,B1];refine(A.at (Μ:=JU x.ζ) QW).trans ?_;refine(A.at (Μ:=Ρ (λp:(Int×Int)×ey=>E7 p.2) z.ο) (A.refl _)).trans ?_;refine(A.c7 (A.at (Μ:=Ρ (λp:(Int×Int)×ey=>E7 p.2) x.ο) (A.refl _))).trans ?_;refine(rV (Ψ,aT)).trans ?_;exact ag
 simp only[F1,B1,bJ];refine Mq ?_;intros;rename_i b3;refine R.cr (pS (b:=b) (d:=d) (x:=x) (s:=s) (z:=z) Ψ aT) ?_;generalize hsk:I7 z.ο x.ο (Ψ,aT)=sk at *;obtain⟨B8,IT,r⟩:=sk;dsimp only at a4 b1 ⊢;have b7:=a4.2;simp only[ey.v];subst a9;have eB:lS r ⟨Ψ,to,aT,mn,[]⟩↔dU r<mn:=by unfold lS;rw[μ rfl]
 have eP:tW (cD x aT) r ⟨Ψ,to,aT,mn,[]⟩=lE (cD x aT) r mn:=μ rfl;have eL:Ct (cD x aT) r ⟨Ψ,to,aT,mn,[]⟩=iO (cD x aT) r mn:=μ rfl;rw[eB,eP,eL];refine Mq ?_;intros;refine Ο.υ (A.at (Μ:=E7 ⟨B8,IT,r⟩) (A.refl _)) ?_;refine Ο.ca (hT.tri _ B8 IT r mn b7 a4.1 a6 a7) ?_;rintro _ _ (⟨J,rfl,rfl⟩|⟨J,a5,c1,a3,c2,rfl,rfl⟩)
 .refine Mq ?_;intros;exact KX.en (.inl ⟨J,rfl,rfl⟩)
 .refine Mq ?_;intros;refine Ο.I1 (Ef.f5 (Β:=ey.v) (e:=(⟨a3,c2,iO (cD x aT) r mn⟩:ey)) rfl rfl rfl rfl) ?_;rintro _ _ rfl;refine Mq ?_;intros;refine KX.a8 aw ?_ (.inr ⟨B,a5,c1,⟨a3,c2,iO (cD x aT) r mn⟩,rfl,rfl,rfl⟩);refine(A.My a5).trans ((A.My a3).trans ?_);refine(A.at (Μ:=Ρ (λp:(Int×Int)×ey=>E7 p.2) z.ο) (A.refl _)).trans ?_;refine(A.at (Μ:=E7 ⟨a3,c2,iO (cD x aT) r mn⟩) (pH (k:=(Ψ,aT)))).trans ?_;exact ag
structure Py (x:Jl) (z:Ny) (fl:List D9) (W:Wk):Prop where
 ο:∀a i,(I7 z.ο x.ο (a,i)).C0=W.ο a i
 gr:∀i,(dV z.gr i).getD ((dV x.gr i).getD 0)=W.gr i
 Ι:z.Ι.map JX.m=W.Ι
 JG:z.JG=W.JG
 imp:Ln (I7 z.imp x.imp) (du (fl++W.Ι))
 ret:Ln (I7 z.ret x.ret) (iS (fl++W.Ι))
structure Sd (x:Jl) (fl:List D9) (W:Wk) (s:C8) (m:A9) (fL:Int->Bool) (ο:List ((Int×Int)×ey)) (imp ret:List (Int×ey)):Prop where
 ο:∀a i,(I7 ο x.ο (a,i)).C0=Jf fL W m a i
 imp:Ln (I7 imp x.imp) (du (fl++W.Ι)++Pw s m)
 ret:Ln (I7 ret x.ret) (iS (fl++W.Ι)++Px s m)
def Hc{d:Int}{fl:List D9}{s:C8}{W:Wk}{m:A9}(h:¬m.Ψ=0):JY d fl s W m≠0↔lS (W.ο m.Ψ m.aT) m:=by
 unfold JY lS;rw[Ω h];split
 .split
  .exact⟨λ_=>by assumption,λ_=>by decide⟩
  .exact⟨λq=>iW rfl q,λq=>by contradiction⟩
 .split
  .exact⟨λq=>iW rfl q,λq=>by contradiction⟩
  .exact⟨λ_=>by assumption,λ_=>by decide⟩
def Ep{d:Int}{fl:List D9}{s:C8}{W:Wk}{m:A9}(h:¬m.Ψ=0)(hb:lS (W.ο m.Ψ m.aT) m):JY d fl s W m=10:=by
 unfold lS at hb;unfold JY;rw[Ω h];split
 .rename_i hp;rw[μ hp] at hb;rw[μ hb]
 .rename_i hp;rw[Ω hp] at hb;rw[Ω hb]
abbrev xQ:List Im:=[.ev 0,.ev 1,.ev 3,.ev 4,.ef 2,.ef 5,.ev 6,.ev 7]
abbrev xP:List Im:=[.ev 0,.ev 1,.ev 3,.ev 4,.ef 2,.ef 5,.ev 6,.ev 7]
def Mv{φ ψ:Prop}(k:ψ)(h:Hid ψ->φ:=by intro k;(repeat (first|refine aa ?_|intro sh|refine Δ.dr 35 5 xQ ?_|refine Δ.dr 35 7 xP ?_));(repeat revert sh);exact Hid.out k):φ:=h ⟨k⟩
def Aj{L:LH}(b bc:Nat)(d:Int)(x:Jl)(s:E8)(z:Ny)(m:G0)(W:Wk)(fl:List D9)(k:Nat)(d0:x.Ι.map JX.m=fl)(hW:Py x z fl W)(hA:Oj d fl k W)(hm:NR s.Κ m.m)(hk:k+m.m.Ζ.length<=2000)(b4:0<=m.m.aT/\m.m.aT<x.ζ.B5.length)(hb:∀p∈m.m.Ζ,p.1<=9223372036854775807)(c3:KJ s.Κ)(b6:¬s.Κ=5->m.m.Ζ=[])(hT:∀mx,OT mx)(c0:x.ζ.B5.length<=64) :
  Λ Ε 193 #[al bc,bh (bJ m)] (ε aI 3 m.pad m.m.Ζ::F1 b bc s z (B1 b d x L)) (λv Y =>
   (JY d (fl++W.Ι) s.m W m.m≠0/\∃pd n c z',v=.tuple #[ae pd n c,E (JY d (fl++W.Ι) s.m W m.m)]/\Y = F1 b bc s z' (B1 b d x L)) \/
   (JY d (fl++W.Ι) s.m W m.m=0/\∃pad F6 a7 r a6,v=.tuple #[ae pad (La (cD x) s.m W m.m).length F6,E 0]/\Sd x fl W s.m m.m (cD x) a7 r a6 /\
    Y = ε aI 3 pad (La (cD x) s.m W m.m)::F1 b bc s { z with ο:=a7,imp:=r,ret:=a6 } (B1 b d x L))):=by
 have a3:=hm.g.C0;have c2:=hA.il;have b0:=Ds hA.fa;have a4:=hW.ο m.m.Ψ m.m.aT;obtain⟨⟨Ψ,to,aT,mn,Ζ⟩,a2,I⟩:=m;have b1:=hm.g.n;dsimp only at hm hk b4 hb a3 a4 b1 b6 ⊢;refine Λ.bd (args:=[al bc,bh (bJ ⟨⟨Ψ,to,aT,mn,Ζ⟩,a2,I⟩)]) ?_;by_cases h0:Ψ=0
 .subst h0;have a5:Jf (cD x) W ⟨0,to,aT,mn,Ζ⟩=W.ο:=by unfold Jf;rw[μ rfl]
  have eS:s.m.Κ=s.Κ:=rfl;by_cases h5:s.Κ=5
  .have eE:JY d (fl++W.Ι) s.m W ⟨0,to,aT,mn,Ζ⟩=Pt d (fl++W.Ι) Ζ:=by unfold JY;rw[μ rfl,μ (show s.m.Κ=5 from h5)]
   have eP:La (cD x) s.m W ⟨0,to,aT,mn,Ζ⟩=Ζ:=by unfold La;rw[μ rfl,μ (.inl h5)]
   have eI:Pw s.m ⟨0,to,aT,mn,Ζ⟩=Ζ:=μ h5;have eR:Px s.m ⟨0,to,aT,mn,Ζ⟩=[]:=Ω B;have c4:=hm.st (.inl h5);have b9:∀r,Ln (I7 r x.imp) (du (fl++W.Ι)++Ζ)->Sd x fl W s.m ⟨0,to,aT,mn,Ζ⟩ (cD x) z.ο r z.ret:=λr hi=>⟨λa i=>by rw[a5];exact hW.ο a i,by rw[eI];exact hi,by rw[eR,aJ];exact hW.ret⟩;rw[eE,eP,<-GI hA.fa a3 c4.2.1];simp only[F1,B1,bJ];refine Mv ?_;intros;rename_i b3;refine Ο.ca (gV a2 Ζ.length I Ζ rfl B) ?_;rintro _ _⟨a9,c1,rfl,rfl⟩;refine Mv ?_;intros;refine Ο.υ (Y:=F1 b bc s z (B1 b d x (ε aI 3 a2 Ζ::Υ aI 3 G1 a9 c1 Ζ::obj b3 JD [E 0,E to,E aT,E mn,ae a2 Ζ.length I]::L))) (by simp only[F1,B1];exact ag) ?_;refine Ο.ca (Ck b bc d x s z (du (fl++W.Ι)) hW.imp B b0 ⟨⟨0,to,aT,mn,Ζ⟩,a2,I⟩ a3 hb iG) ?_;rintro _ _⟨r,rfl,b2,rfl⟩;dsimp only at b2 ⊢;simp only[F1,B1];by_cases he:MF d Ζ (du (fl++W.Ι))=0
   .rw[he];refine Mv ?_;intros;refine KX.a8 aw ?_ (.inr ⟨rfl,a9,c1,z.ο,r,z.ret,rfl,b9 r (b2 he),rfl⟩);refine(A.My a9).trans ?_;exact ag
   .refine Mv ?_;intros;exact KX.a8 aw (by simp only[F1,B1];exact ag) (.inl ⟨he,a9,Ζ.length,c1,{ z with imp:=r },rfl,rfl⟩)
  have b8:¬s.Κ=9:=by unfold KJ at c3;omega
  have eE:JY d (fl++W.Ι) s.m W ⟨0,to,aT,mn,Ζ⟩=0:=by unfold JY;rw[μ rfl,Ω (show ¬s.m.Κ=5 from h5),Ω (show ¬s.m.Κ=9 from b8)]
  have eP:La (cD x) s.m W ⟨0,to,aT,mn,Ζ⟩=[]:=by unfold La;rw[μ rfl,Ω B]
  have eI:Pw s.m ⟨0,to,aT,mn,Ζ⟩=[]:=Ω h5;have eR:Px s.m ⟨0,to,aT,mn,Ζ⟩=[]:=Ω B;simp only[F1,B1,bJ];rw[eE,eP];refine Mv ?_;intros;refine KX.a8 aw ?_ (.inr ⟨rfl,none,0,z.ο,z.imp,z.ret,rfl,⟨λa i=>by rw[a5];exact hW.ο a i,by rw[eI,aJ];exact hW.imp,by rw[eR,aJ];exact hW.ret⟩,rfl⟩);refine A.trans ?_ (A.f5 aI 3 none);exact ag
 have eI:Pw s.m ⟨Ψ,to,aT,mn,Ζ⟩=[]:=Ω (λq=>h0 (hm.imp q));have eR:Px s.m ⟨Ψ,to,aT,mn,Ζ⟩=[]:=Ω (λq=>h0 q.2);have hG:=hA.g.ο Ψ aT;have c6:=hG.len;have b5:Ζ=[]:=b6 λq=>h0 (hm.imp q);have b7:gH Ζ/\Iu Ζ:=by rw[b5];exact⟨⟨(λx K=>by cases K),by decide⟩,List.Pairwise.nil⟩
 refine Mv ?_;intros;refine R.υ A.drop ?_;refine R.ca (rU b bc d x s z ⟨⟨Ψ,to,aT,mn,Ζ⟩,a2,I⟩ ⟨b4,⟨by have:=b1.1;dsimp only;omega,b1.2⟩,b7.1,b7.2,by rw[a4];exact⟨hG.C0,B⟩,by rw[a4];exact hG.OX⟩ (hT _) c0 b5) ?_;dsimp only;rw[a4];rintro _ _ (⟨J,rfl,rfl⟩|⟨J,pad,F6,sk,rfl,c5,rfl⟩)
 .have e:=Ep (d:=d) (fl:=fl++W.Ι) (s:=s.m) (W:=W) (m:=⟨Ψ,to,aT,mn,Ζ⟩) h0 J;rw[e];refine Mv ?_;intros;exact KX.a8 aw (A.refl _) (.inl ⟨by decide,none,0,0,z,rfl,rfl⟩)
 .have eE:JY d (fl++W.Ι) s.m W ⟨Ψ,to,aT,mn,Ζ⟩=0:=Classical.byContradiction λq=>J ((Hc h0).1 q);have eP:La (cD x) s.m W ⟨Ψ,to,aT,mn,Ζ⟩=tW (cD x aT) (W.ο Ψ aT) ⟨Ψ,to,aT,mn,Ζ⟩:=by unfold La;rw[Ω h0];rfl
  rw[eE,eP];refine Mv ?_;intros;refine KX.a8 aw (A.refl _) (.inr ⟨rfl,pad,F6,fc z.ο (Ψ,aT) sk,z.imp,z.ret,rfl,⟨?_,by rw[eI,aJ];exact hW.imp,by rw[eR,aJ];exact hW.ret⟩,rfl⟩);intro a i;rw[mQ];unfold Jf K9;rw[Ω h0];by_cases hq:a=Ψ/\i=aT
  .obtain⟨rfl,rfl⟩:=hq;rw[μ rfl,μ ⟨rfl,rfl⟩,c5];rfl
  .rw[Ω (λh=>hq (by simpa using h)),Ω hq];exact hW.ο a i
abbrev xO:=Ux [.ev 10,.ev 11]
abbrev xN:=Ux [.ev 10]
abbrev vg:=Uv [.ev 6,.ef 7]
abbrev ve:=Uz [.ev 17,.ev 18,.ev 19,.ev 20,.ev 21,.ev 22,.ev 23,.ev 24,.ev 25,.ev 26,.ev 27,.ev 28,.ev 29,.ev 30,.ev 31,.ev 32,.ev 33,.ev 34,.ev 35,.ev 36,.ev 37,.ev 38,.ev 39,.ev 40,.ev 41,.ev 42,.ev 43,.ev 44,.ev 45,.ev 46,.ev 47,.ev 48,.ev 49,.ev 50,.ev 51,.ev 52,.ef 53,.ef 54]
abbrev vd:=Uv [.ef 6,.ef 7,.ev 8,.ev 9,.ef 10]
abbrev vc:=Uv [.ev 6,.ef 7,.ef 8,.ev 9,.ev 10,.ef 11]
abbrev vb:=Uy [.ev 13,.ev 14,.ef 15,.ef 16]
def bM{φ ψ:Prop}(k:ψ)(h:Hid ψ->φ:=by intro k;(with_reducible apply Δ.a8);first|refine Δ.dr 186 4 xO (Hid.out k)|refine Δ.dr 186 6 xN (Hid.out k)|refine Δ.dr 186 13 vg (Hid.out k)|refine Δ.dr 186 14 ve (Hid.out k)|refine Δ.dr 186 17 vd (Hid.out k)|refine Δ.dr 186 19 vc (Hid.out k)|refine Δ.dr 186 24 vb (Hid.out k)):φ:=h ⟨k⟩
def MD{φ ψ:Prop}(k:ψ)(h:Hid ψ->φ:=by intro k;(repeat (first|refine aa ?_|intro sh|refine bM ?_));(repeat revert sh);exact Hid.out k):φ:=h ⟨k⟩
def BC{L:LH}(b bc:Nat)(d:Int)(x:Jl)(s:E8)(z:Ny)(m:G0)(W:Wk)(Ka:List D9)(k:Nat)(d4:x.Ι.map JX.m=Ka)(hW:Py x z Ka W)(hA:Oj d Ka k W)(hm:NR s.Κ m.m)(hk:k+m.m.Ζ.length<=2000)(e9:0<=m.m.aT/\m.m.aT<x.ζ.B5.length)(hb:∀p∈m.m.Ζ,p.1<=9223372036854775807)(c4:KJ s.Κ)(f1:¬s.Κ=5->m.m.Ζ=[])(f2:0<=d/\d<12)(U:x.Ι.length<=4194304)(f7:W.Ι.length<64)(hT:∀mx,OT mx)(e8:x.ζ.B5.length<=64) :
  Λ Ε 134 #[al bc,bh (bJ m)] (ε aI 3 m.pad m.m.Ζ::F1 b bc s z (B1 b d x L)) (λv Y=>∃z',v=E (ce d Ka (cD x) s.m W m.m).1 /\
   ((ce d Ka (cD x) s.m W m.m).1=0->Py x z' Ka (ce d Ka (cD x) s.m W m.m).2)/\Y = F1 b bc s z' (B1 b d x L)):=by
 have d0:=λ (ξ:LH)=>Aj (L:=ξ) b bc d x s z m W Ka k d4 hW hA hm hk e9 hb c4 f1 hT e8;obtain⟨g4,g5⟩:=f2;obtain⟨g1,g2⟩:=hm.g.n;have g3:=hm.g.ne;obtain⟨g6,g7⟩:=hA.g.gr m.m.aT;have f4:Ka.length=x.Ι.length:=by rw[<-d4,ah]
 have f6:z.Ι.length=W.Ι.length:=by rw[<-hW.Ι,ah]
 have g0:z.JG.length<=64:=by rw[hW.JG];have:=hA.g.JG;omega
 have e7:=λ (he:JY d (Ka++W.Ι) s.m W m.m=0)=>wr (fL:=cD x) hA.g hm.g B he;have c3:=Dt (d:=d) (nf:=Ka.length) (fL:=cD x) (s:=s.m) (W:=W) hm (Ka++W.Ι);refine Λ.bd ?_;refine MD ?_;intros;rename_i b3;refine R.υ (Y:=ε aI 3 m.pad m.m.Ζ::F1 b bc s z (B1 b d x (obj b3 JD (bJ m)::L))) (by simp only[F1,B1];exact ag) ?_;refine R.ca (d0 (obj b3 JD (bJ m)::L)) ?_;rintro _ _ (⟨J,pd,pn,pc,z',rfl,rfl⟩|⟨J,pad,F6,r,I,a2,rfl,f3,rfl⟩)
 .have e:ce d Ka (cD x) s.m W m.m=(JY d (Ka++W.Ι) s.m W m.m,W):=by unfold ce;rw[μ J]
  rw[e];generalize JY d (Ka++W.Ι) s.m W m.m=er at *;dsimp only;refine MD ?_;intros;exact KX.a8 aw (by simp only[F1,B1];exact ag) ⟨z',rfl,(λh=>iW h J),rfl⟩
 obtain⟨b0,a6,a7⟩:=f3;have d6:dZ d Ka.length W=d*4294967296+(x.Ι.length:Int)+(z.Ι.length:Int):=by unfold dZ;rw[f6,f4]
 have f0:ce d Ka (cD x) s.m W m.m=if dj W m.m>1099511627776 then(4,W)
   else if m.m.to=0 then(0,⟨Jf (cD x) W m.m,K6 W.gr m.m.aT (dj W m.m),W.Ι++[fV d Ka.length (cD x) s.m W m.m],W.JG++[dZ d Ka.length W]⟩)
   else if 4096<=(Jf (cD x) W m.m m.m.to m.m.aT).length then(4,W)
   else(0,⟨K9 (Jf (cD x) W m.m) m.m.to m.m.aT (bz (Jf (cD x) W m.m m.m.to m.m.aT) (dZ d Ka.length W,0,m.m.n)),K6 W.gr m.m.aT (dj W m.m),W.Ι++[fV d Ka.length (cD x) s.m W m.m],W.JG⟩):=by unfold ce;rw[Ω (λq=>q J)]
 have b5:fV d Ka.length (cD x) s.m W m.m=⟨dZ d Ka.length W,s.F,s.Κ,s.G,s.MB,m.m.Ψ,m.m.to,m.m.aT,m.m.n,La (cD x) s.m W m.m,jW s.m W m.m⟩:=rfl;rw[<-c3.1] at a6;rw[<-c3.2] at a7;clear c3 d0;rw[f0];generalize fV d Ka.length (cD x) s.m W m.m=fl at *;generalize La (cD x) s.m W m.m=pts at *;rw[ax] at a6 a7;have e2:dj W m.m=W.gr m.m.aT+(if m.m.Ψ=0 then m.m.n else 0) - (if m.m.to=0 then m.m.n else 0):=rfl;have e3:=hW.gr m.m.aT;simp only[F1,B1,cC];refine MD ?_;intros;refine Ο.Js (O.a8 rfl rfl) ac ?_;repeat first|refine Δ.sm 5 ?_|refine cR ?_|intro _|refine bM ?_
 refine Δ.c7 (α:=Unit) (λ_=>True) (λ_=>[(0,al bc),(3,al b3),(4,E 0),(5,ae pad pts.length F6),(7,E (W.gr m.m.aT))]) (λ_=>ε aI 3 pad pts::F1 b bc s { z with ο:=r,imp:=I,ret:=a2 } (B1 b d x (obj b3 JD (bJ m)::L))) ?_ ?_
 .cases hl:@List.lookup _ _ instBEqOfDecidableEq m.m.aT z.gr with
  | some t =>
   simp only[dM,Option.getD_some,Option.isSome_some];have e:W.gr m.m.aT=t:=by rw[<-e3];unfold dV;rw[hl];rfl
   rw[e];refine MD ?_;intros;exact⟨(),trivial,aA,A.refl _⟩
  | none =>
   simp only[gF,Option.getD_none,Option.isSome_none];have e:W.gr m.m.aT=(dV x.gr m.m.aT).getD 0:=by rw[<-e3];unfold dV;rw[hl];rfl
   rw[e];refine MD ?_;intros;refine Ο.Js (O.j5 rfl rfl) ac ?_;rw[HQ];refine MD ?_;intros;exact⟨(),trivial,aA,A.refl _⟩
 rintro _ _;simp only[F1,B1,cC];refine Δ.c7 (α:=Unit) (λ_=>True) (λ_=>[(0,al bc),(3,al b3),(4,E 0),(5,ae pad pts.length F6),(7,E (W.gr m.m.aT+(if m.m.Ψ=0 then m.m.n else 0)))]) (λ_=>ε aI 3 pad pts::F1 b bc s { z with ο:=r,imp:=I,ret:=a2 } (B1 b d x (obj b3 JD (bJ m)::L))) ?_ ?_
 .by_cases h0:m.m.Ψ=0
  .rw[μ h0];refine MD ?_;intros;exact⟨(),trivial,aA,A.refl _⟩
  .rw[Ω h0,Int.add_zero];refine MD ?_;intros;exact⟨(),trivial,aA,A.refl _⟩
 rintro _ _;simp only[F1,B1,cC];have c0 : -9223372036854775808+1099511627776<=W.gr m.m.aT+(if m.m.Ψ=0 then m.m.n else 0)/\W.gr m.m.aT+(if m.m.Ψ=0 then m.m.n else 0)<=2199023255552:=by split<;>omega
 obtain⟨c0,e5⟩:=c0;refine Δ.c7 (α:=Unit) (λ_=>True) (λ_=>[(0,al bc),(3,al b3),(4,E 0),(5,ae pad pts.length F6),(7,E (dj W m.m))]) (λ_=>ε aI 3 pad pts::F1 b bc s { z with ο:=r,imp:=I,ret:=a2 } (B1 b d x (obj b3 JD (bJ m)::L))) ?_ ?_
 .rw[e2];generalize W.gr m.m.aT+(if m.m.Ψ=0 then m.m.n else 0)=t1 at *;by_cases h0:m.m.to=0
  .rw[μ h0];refine MD ?_;intros;exact⟨(),trivial,aA,A.refl _⟩
  .rw[Ω h0,Int.sub_zero];refine MD ?_;intros;exact⟨(),trivial,aA,A.refl _⟩
 rintro _ _;simp only[F1,B1,cC];by_cases b1:dj W m.m>1099511627776
 .rw[μ b1];refine MD ?_;intros;exact KX.a8 aw ag ⟨{ z with ο:=r,imp:=I,ret:=a2 },rfl,(λh=>iW (show(_:Int)=0 from h) iG),rfl⟩
 rw[Ω b1];clear e2 c0 e5;refine MD ?_;intros;refine Ο.I1 (Ef.f5 (Β:=KH) (e:=dj W m.m) rfl rfl rfl rfl) ?_;rintro _ _ rfl;repeat first|refine Δ.sm 15 ?_|refine cR ?_|intro _|refine bM ?_
 rename_i b9
 have b2:∀(cU:OA) (fH:Nat),ee (Ll fl pad F6 cU fH)=[E (d*4294967296+(x.Ι.length:Int)+(z.Ι.length:Int)),E s.F,E s.Κ,E s.G,E s.MB,E m.m.Ψ,E m.m.to,E m.m.aT,E m.m.n,ae pad pts.length F6,ae cU (jW s.m W m.m).length fH]:=by
  intro cU fH;rw[b5,d6];rfl
 refine Δ.c7 (α:=OA×Nat) (λ_=>True) (λ_=>[(0,al bc),(3,al b3),(4,E 0),(9,al b9)]) (λg=>obj b9 fS (ee (Ll fl pad F6 g.1 g.2))::ε (a0 .i64) 1 g.1 (jW s.m W m.m)::ε aI 3 pad pts::F1 b bc s { z with ο:=r,imp:=I,ret:=a2,gr:=fc z.gr m.m.aT (dj W m.m) } (B1 b d x (obj b3 JD (bJ m)::L))) ?_ ?_
 .have e4:¬s.Κ=4:=by unfold KJ at c4;omega
  have b8:¬s.Κ=10:=by unfold KJ at c4;omega
  have e:jW s.m W m.m=[]:=Ω (λq=>q.2.elim e4 b8);by_cases h0:m.m.Ψ=0
  all_goals
   refine MD ?_;intros;refine⟨(none,0),trivial,aA,?_⟩
   rw[b2,e]
   refine A.trans ?_ (A.c7 (A.f5 (a0 .i64) 1 none))
   exact ag
 rintro⟨cU,fH⟩ _;simp only[F1,B1,cC];refine MD ?_;intros;refine Ο.ef (Ef.a8 (Β:=ee) (e:=Ll fl pad F6 cU fH) rfl rfl rfl rfl rfl aS (mA _) B B) ac ?_;rintro _ _⟨a4,a3,rfl,rfl⟩;repeat first|refine Δ.sm 18 ?_|refine cR ?_|intro _|refine bM ?_
 have a5:fl.F=dZ d Ka.length W:=by rw[b5]
 have b4:fl.n=m.m.n:=by rw[b5]
 have c1:fl.made=jW s.m W m.m:=by rw[b5]
 have c2:fl.Ζ=pts:=by rw[b5]
 refine Δ.υ (Y:=obj b9 fS (ee (Ll fl pad F6 cU fH))::F1 b bc s { z with ο:=r,imp:=I,ret:=a2,gr:=fc z.gr m.m.aT (dj W m.m),Ι:=z.Ι++[Ll fl pad F6 cU fH],A7:=a4,C4:=a3 } (B1 b d x (obj b3 JD (bJ m)::L))) ?_ ?_
 .simp only[F1,B1,cC];refine(A.at (Μ:=ε (a0 .i64) 1 cU (jW s.m W m.m)) (A.refl _)).trans ?_;refine(A.at (Μ:=ε aI 3 pad pts) (A.refl _)).trans ?_;rw[<-c2,<-c1];refine(A.g8 (cA _ _ _ _) (cA _ _ _ _)).trans ?_;refine(A.at (Μ:=Ρ Kw z.Ι) (A.refl _)).trans ?_;refine((A.c7 (A.d7 (f:=Kw) (x:=Ll fl pad F6 cU fH) ud)).trans (A.c9 ud)).trans ?_;exact ag
 have d2:∀i,(dV (fc z.gr m.m.aT (dj W m.m)) i).getD ((dV x.gr i).getD 0)=K6 W.gr m.m.aT (dj W m.m) i:=by
  intro i;unfold dV K6;have hq:=mH (m:=z.gr) (k:=m.m.aT) (q:=i) (a:=dj W m.m);refine(congrArg (λo:Option Int=>o.getD ((dV x.gr i).getD 0)) hq).trans ?_;by_cases hi:i=m.m.aT
  .rw[μ hi,μ hi];rfl
  .rw[Ω hi,Ω hi];exact hW.gr i
 have d1:(z.Ι++[Ll fl pad F6 cU fH]).map JX.m=W.Ι++[fl]:=by rw[aL,hW.Ι];rfl
 simp only[F1,B1,cC];by_cases h0:m.m.to=0
 .rw[μ h0];refine MD ?_;intros;refine Ο.ef (Ef.a8 (Β:=a0 .i64) (e:=(Ll fl pad F6 cU fH).m.F) rfl rfl rfl rfl rfl aS (by simp[a0,Value.oneCell']) B B) ac ?_;rintro _ _⟨c6,b6,rfl,rfl⟩;refine MD ?_;intros;refine KX.a8 aw ?_ ⟨{ z with ο:=r,imp:=I,ret:=a2,gr:=fc z.gr m.m.aT (dj W m.m),Ι:=z.Ι++[Ll fl pad F6 cU fH],A7:=a4,C4:=a3,JG:=z.JG++[fl.F],Kk:=c6,Kl:=b6 },rfl,λ_=>⟨b0,d2,d1,?_,a6,a7⟩,rfl⟩
  .simp only[F1,B1,cC];exact ag
  .show z.JG++[fl.F]=W.JG++[dZ d Ka.length W];rw[hW.JG,a5]
 rw[Ω h0];refine MD ?_;intros;refine R.υ (Y:=E7 (I7 r x.ο (m.m.to,m.m.aT))::obj b9 fS (ee (Ll fl pad F6 cU fH))::F1 b bc s { z with ο:=r,imp:=I,ret:=a2,gr:=fc z.gr m.m.aT (dj W m.m),Ι:=z.Ι++[Ll fl pad F6 cU fH],A7:=a4,C4:=a3 } (B1 b d x (obj b3 JD (bJ m)::L))) ?_ ?_
 .simp only[F1,B1,cC];refine(A.at (Μ:=Ρ (λp:(Int×Int)×ey=>E7 p.2) r) (A.refl _)).trans ?_;refine(A.c7 (A.at (Μ:=Ρ (λp:(Int×Int)×ey=>E7 p.2) x.ο) (A.refl _))).trans ?_;refine(rV (m.m.to,m.m.aT)).trans ?_;exact ag
 simp only[F1,B1];refine R.cr (pS (b:=b) (d:=d) (x:=x) (s:=s) (z:={ z with ο:=r,imp:=I,ret:=a2,gr:=fc z.gr m.m.aT (dj W m.m),Ι:=z.Ι++[Ll fl pad F6 cU fH],A7:=a4,C4:=a3 }) m.m.to m.m.aT) ?_;dsimp only;have e6:=b0 m.m.to m.m.aT;have d5:=e7 J m.m.to m.m.aT;have e0:(Jf (cD x) W m.m m.m.to m.m.aT).length<=4096:=aQ d5.len B;have e1:=d5.C0;rw[<-e6] at e0 e1 ⊢;generalize hsk:I7 r x.ο (m.m.to,m.m.aT)=sk at *;simp only[ey.v,cC];by_cases d3:4096<=sk.C0.length
 .rw[μ d3];refine MD ?_;intros;refine KX.a8 aw ?_ ⟨{ z with ο:=r,imp:=I,ret:=a2,gr:=fc z.gr m.m.aT (dj W m.m),Ι:=z.Ι++[Ll fl pad F6 cU fH],A7:=a4,C4:=a3 },rfl,(λh=>iW (show(_:Int)=0 from h) iG),rfl⟩;exact ag
 rw[Ω d3];refine MD ?_;intros;refine Ο.υ (A.at (Μ:=E7 sk) (A.refl _)) ?_
 have c5:π ((Ll fl pad F6 cU fH).m.F,0,(Ll fl pad F6 cU fH).m.n):=by
  show π (fl.F,0,fl.n);rw[a5,b4,d6];unfold π;dsimp only;omega
 refine Ο.ca (Dk sk.M sk.cap sk.C0 ((Ll fl pad F6 cU fH).m.F,0,(Ll fl pad F6 cU fH).m.n) e0 e1 c5) ?_;rintro _ _⟨b7,a9,rfl,rfl⟩;refine MD ?_;intros;refine Ο.I1 (Ef.f5 (Β:=ey.v) (e:=(⟨b7,a9,bz sk.C0 (fl.F,0,fl.n)⟩:ey)) rfl rfl rfl rfl) ?_;rintro _ _ rfl;refine MD ?_;intros;refine KX.a8 aw ?_ ⟨{ z with ο:=fc r (m.m.to,m.m.aT) ⟨b7,a9,bz sk.C0 (fl.F,0,fl.n)⟩,imp:=I,ret:=a2,gr:=fc z.gr m.m.aT (dj W m.m),Ι:=z.Ι++[Ll fl pad F6 cU fH],A7:=a4,C4:=a3 },rfl,λ_=>⟨?_,d2,d1,hW.JG,a6,a7⟩,rfl⟩
 .simp only[F1,B1,cC];refine(A.My b7).trans ?_;refine(A.at (Μ:=Ρ (λp:(Int×Int)×ey=>E7 p.2) r) (A.refl _)).trans ?_;refine(A.at (Μ:=E7 ⟨b7,a9,bz sk.C0 (fl.F,0,fl.n)⟩) (pH (k:=(m.m.to,m.m.aT)))).trans ?_;exact ag
 .intro a i;dsimp only;rw[mQ];unfold K9;by_cases hq:a=m.m.to/\i=m.m.aT
  .obtain⟨rfl,rfl⟩:=hq;rw[μ rfl,μ ⟨rfl,rfl⟩];dsimp only;rw[a5,b4]
  .rw[Ω (λh=>hq (by simpa using h)),Ω hq];exact b0 a i
