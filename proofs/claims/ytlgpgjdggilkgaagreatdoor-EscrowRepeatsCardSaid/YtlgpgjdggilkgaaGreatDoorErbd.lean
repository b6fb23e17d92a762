/- Lemmas. -/
import Derived.Test.YtlgpgjdggilkgaaGreatDoorErbc
set_option linter.all false
set_option maxHeartbeats 4000000
namespace Go.Proofs.YtlgpgjdggilkgaaGreatDoor
section
open Go.V
def Ij(f t:Int)(am:List (Int×Int)):List A9:=am.map λa=>⟨f,t,a.1,a.2,[]⟩
def jn(f t:Int)(am:List (Int×Int)):(I8 f t am).map G0.m=Ij f t am:=by unfold I8 Ij;rw[cO];rfl
theorem ik(f t:Int):∀am:List (Int×Int),C2 (Ij f t am)=am.length
 | []=>rfl
 | a::am=>by
  have h:=ik f t am;show(0+1)+C2 (Ij f t am)=am.length+1;omega
def I9(Κ G:Int)(T:List A9):C8:=⟨0,Κ,0,G,-1,0,T⟩
def HB(Κ G:Int)(T:List G0)(cU:OA)(fH:Nat):(Jz Κ G T cU fH).m=I9 Κ G (T.map G0.m):=rfl
noncomputable def IG(S:Χ)(Κ G:Int)(T:List A9):Bool:=dB ((E2 S (I9 Κ G T)).1=0)
noncomputable def Kc(S:Χ)(Κ G:Int)(T:List A9):List Int:=if(E2 S (I9 Κ G T)).1=0 then kL S (I9 Κ G T) else[]
noncomputable abbrev Jo(S:Χ)(Κ G:Int)(T:List A9):Χ:=bP S (I9 Κ G T)
def lA{S:Χ}{Κ G:Int}{T:List A9}(h:IG S Κ G T=false):Jo S Κ G T=S:=Ω (λq=>by unfold IG at h;rw[bI q] at h;cases h)
theorem wv{d:Int}{c:D4}{k:Nat}{S:Χ}(hS:J6 d c k S){Κ G:Int}{T:List A9}(hk:k+C2 T<=2000)(h:IG S Κ G T=true):(Kc S Κ G T).length=T.length/\T.length<=64:=by
 have he:(E2 S (I9 Κ G T)).1=0:=by
  refine Classical.byContradiction λq=>?_;unfold IG at h;rw[bj q] at h;cases h
 obtain⟨_,r,a2⟩:=qE (s:=I9 Κ G T) hS.a hk he;have I:T.length<=64:=r.2.2.2.1.2;grind [Kc,kL,bP,I9,eX]
def DE{d:Int}{c:D4}{k:Nat}{S:Χ}(hS:J6 d c k S){Κ G:Int}{T:List A9}(hk:k+C2 T<=2000):∀f∈Kc S Κ G T,id f:=by
 intro f hf;unfold Kc at hf;split at hf
 .unfold kL at hf;obtain⟨g,hg,rfl⟩:=IY hf;have r:=dC hg;obtain⟨j,hj,rfl⟩:=List.getElem_of_mem r;have hA:=(hS.post (I9 Κ G T) hk).a;have J:=(hA.fn j hj).1;rw[C5 hj] at J;have U:=hA.g.Ι;have h3:=hA.g.hx;have h4:=hA.g.kQ;unfold id;omega
 .cases hf
attribute [local irreducible] Δ R GP Ο h2 GF GE O Ef A8 A CB GB V.Enters
theorem iI{L:LH}(nb lb:Nat)(d Q ω hl:Int)(mb mp mr:Nat)(c:D4)(k:Nat)(S:Χ)(hS:J6 d c k S)(Κ G:Int)(T:List G0)(cU:OA)(fH:Nat)(hs:MZ (Jz Κ G T cU fH))(hk:k+C2 (T.map G0.m)<=2000) :
  Λ Ε 146 #[al nb,E Κ,E G,ae cU T.length fH] (Υ bJ 5 JD cU fH T::Ρ G2 T::obj nb B2 (cw lb d Q ω hl mb mp mr)::aN lb S::L) (λv Y=>∃A7 C4,v=.tuple #[ae A7 (Kc S Κ G (T.map G0.m)).length C4,.bool (IG S Κ G (T.map G0.m))]/\Y = Υ (a0 .i64) 1 kR A7 C4 (Kc S Κ G (T.map G0.m))::obj nb B2 (cw lb d Q ω hl mb mp mr)::aN lb (Jo S Κ G (T.map G0.m))::L):=by
 have I:MZ (Jz Κ G [] none 0):=⟨hs.kd,aC _,hs.Ip,λm hm=>iW hm aD,λm hm=>iW hm aD,λm hm=>iW hm aD⟩;refine Λ.d9 (φ:=T.length<=fH) (rt (L:=[]) nb lb d Q ω hl mb mp mr c k S hS Κ G [] none 0 I (au _) (by show k+0<=2000;omega)).enters (λθ Α w s=>(ke (M:=cU) (D:=T) θ Α w s).1) λr=>?_;have h:=rt (L:=L) nb lb d Q ω hl mb mp mr c k S hS Κ G T cU fH hs r hk;simp only[HB] at h;refine(h.pre (L:=Υ bJ 5 JD cU fH T::Ρ G2 T::obj nb B2 (cw lb d Q ω hl mb mp mr)::aN lb S::L) ?_).LO ?_
 .refine A.JC.trans ?_;exact ag
 rintro v Y (⟨J,A7,C4,rfl,rfl⟩|⟨J,rfl,rfl⟩)
 .refine⟨_,⟨A7,C4,?_,rfl⟩,?_⟩
  .grind [Kc,IG,bI]
  .unfold Kc;rw[μ J];exact ag
 .refine⟨_,⟨none,0,?_,rfl⟩,?_⟩
  .grind [Kc,IG,bj]
  .unfold Kc Jo bP;rw[Ω J,Ω J];refine(A.c8 (a0 .i64) 1 kR).trans ?_;exact ag
noncomputable def dE(d F cB Φ G:Int)(o:B0)(S:Χ):List xs×B0×Χ :=
 if o.state≠0 then([],o,S)
 else if cB=1/\o.bB.ts≠d then
  if IG S 6 G (Ij Φ 0 o.bB.am)=true then([gW d F { o with state:=1,Ι:=Kc S 6 G (Ij Φ 0 o.bB.am) }],{ o with state:=1,Ι:=Kc S 6 G (Ij Φ 0 o.bB.am) },Jo S 6 G (Ij Φ 0 o.bB.am)) else([],o,S)
 else if IG S 2 G (Ij Φ (if cB=2 then o.bB.fr else o.bB.to) o.bB.am)=true then([],{ o with state:=2 },Jo S 2 G (Ij Φ (if cB=2 then o.bB.fr else o.bB.to) o.bB.am)) else([],o,S)
structure H7 where
 b:Nat
 state:Int
 Φ:Int
 Η:List D5
 ad:OA
 fe:Nat
 deriving Inhabited
def J2(p:H7):LV:=[E p.state,E p.Φ,ae p.ad p.Η.length p.fe]
structure Lb where
 state:Int
 Φ:Int
 Η:List B0
 deriving Inhabited,DecidableEq
def H7.m(p:H7):Lb:=⟨p.state,p.Φ,p.Η.map D5.m⟩
theorem ja{d F cB Φ G:Int}{o:B0}{S:Χ}(h:o.state≠0):dE d F cB Φ G o S=([],o,S):=μ h
theorem jA{d F cB Φ G:Int}{o:B0}{S:Χ}(h:o.state=0)(hB:cB=1/\o.bB.ts≠d):dE d F cB Φ G o S=if IG S 6 G (Ij Φ 0 o.bB.am)=true then([gW d F { o with state:=1,Ι:=Kc S 6 G (Ij Φ 0 o.bB.am) }],{ o with state:=1,Ι:=Kc S 6 G (Ij Φ 0 o.bB.am) },Jo S 6 G (Ij Φ 0 o.bB.am)) else([],o,S):=by
 grind [dE]
theorem io{d F cB Φ G to:Int}{o:B0}{S:Χ}(h:o.state=0)(hB:¬(cB=1/\o.bB.ts≠d))(ht:to=if cB=2 then o.bB.fr else o.bB.to):dE d F cB Φ G o S=if IG S 2 G (Ij Φ to o.bB.am)=true then([],{ o with state:=2 },Jo S 2 G (Ij Φ to o.bB.am)) else([],o,S):=by
 grind [dE]
theorem lw{α:Type}[Inhabited α]{l:List α}{i:Nat}(h:i<l.length):l.set i l[i]! = l:=by
 grind [List.set_getElem_self]
theorem FF{α:Type}[Inhabited α]{l:List α}{i:Nat}(h:i<l.length)(x:α):(l.set i x)[i]! = x:=by
 grind
theorem A.j6{α:Type}{f:α->HP}(hf:∀x,JJ (f x)){l:List α}{i:Nat}{x:α}{L:LH}:A (f x::Ρ f l::L) (Ρ f (l.set i x)::L) :=
 (A.j5 hf).trans (A.g9 ay)
def A.k6{L:LH}(f t:Int):∀am:List (Int×Int),A L (Ρ G2 (I8 f t am)::L)
 | []=>A.a8 G2
 | a::am=>(A.k6 f t am).trans ((A.f5 aI 3 none).trans (A.j5 (f:=G2) (x:=Qy f t a.1 a.2) iN))
theorem lU(Κ G f t:Int)(kd:KJ Κ)(am:List (Int×Int))(h:am.length<=1000)(cU:OA)(fH:Nat):MZ (Jz Κ G (I8 f t am) cU fH):=by
 have hm:∀m∈I8 f t am,m.m.Ζ=[]:=λm hm=>by
  obtain⟨a,_,rfl⟩:=IY hm;rfl
 refine⟨kd,?_,by show id (-1);unfold id;omega,λm J=>?_,λm J=>?_,λm J p hp=>?_⟩
 .show(I8 f t am).length<=1000000;grind [I8]
 .rw[hm m J];grind
 .rw[hm m J];grind
 .rw[hm m J] at hp;cases hp
abbrev Bo:=Uz []
abbrev Bn:=Ux [.ev 10,.ef 11,.ef 12,.ev 13,.ev 14,.ev 15,.ev 16,.ev 17]
abbrev yp:=Ux [.ev 10,.ev 11,.ef 12,.ef 13,.ev 14,.ev 15,.ev 16,.ev 17,.ev 18]
def OY{φ ψ:Prop}(k:ψ)(h:Hid ψ->φ:=by intro k;(repeat (first|refine aa ?_|intro sh|refine Δ.dr 104 3 Bo ?_|refine Δ.dr 104 4 Bn ?_|refine Δ.dr 104 12 yp ?_));(repeat revert sh);exact Hid.out k):φ:=h ⟨k⟩
theorem lB{L:LH}(nb lb:Nat)(d Q ω hl:Int)(mb mp mr:Nat)(c:D4)(k:Nat)(S:Χ)(hS:J6 d c k S)(F:Int)(b0:id F)(pb:Nat)(cB Φ:Int)(ad:OA)(fe:Nat)(hA:rR ad)(os:List D5)(i:Nat)(hi:i<os.length)(a4:Ma os[i]!.m)(G:Int)(hk:os[i]!.state=0->k+os[i]!.bB.m.am.length<=2000) :
  Λ Ε 97 #[al nb,E F,al pb,.pointer (Ks ad 8 i 0),E G] (obj nb B2 (cw lb d Q ω hl mb mp mr)::obj pb JA (J2 ⟨pb,cB,Φ,os,ad,fe⟩)::Υ cY 8 Jv ad fe os::Ρ G6 os::aN lb S::L) (λv Y=>∃M cap T o',v=ae M T.length cap/\(T.map (·.m),o'.m,(dE d F cB Φ G os[i]!.m S).2.2)=dE d F cB Φ G os[i]!.m S/\Y = Υ aV 3 hy M cap T::Ρ cV T::obj nb B2 (cw lb d Q ω hl mb mp mr)::obj pb JA (J2 ⟨pb,cB,Φ,os,ad,fe⟩)::Υ cY 8 Jv ad fe (os.set i o')::Ρ G6 (os.set i o')::aN lb ((dE d F cB Φ G os[i]!.m S).2.2)::L):=by
 have a3:os[i]!.bB.m.am.length<=1000:=by have:=a4.1.2.1;simp only[D5.m] at this;omega
 have r:os[i]!∈os:=by rw[C5 hi];exact ay
 refine Λ.bd ?_;refine Δ.υ (A.at (Μ:=Ρ G6 os) ((A.d8 r).trans CV)) ?_;simp only[cw,J2];refine OY ?_;intros;refine R.ev (O.c7 rfl hA) ac ?_;by_cases h0:os[i]!.state=0
 case neg =>
  have hW:=ja (d:=d) (F:=F) (cB:=cB) (G:=G) (Φ:=Φ) (S:=S) (o:=os[i]!.m) h0;refine OY ?_;intros;rw[hW];refine KX.a8 aw ?_ ⟨none,0,[],os[i]!,rfl,rfl,rfl⟩;rw[lw hi];exact(A.c8 aV 3 hy).trans ((A.a8 cV).trans ag)
 replace hk:=hk h0;by_cases b1:cB=1
 .by_cases a7:os[i]!.bB.m.ts=d
  .have hB:¬(cB=1/\os[i]!.m.bB.ts≠d):=λq=>q.2 a7;refine OY ?_;intros;refine Ο.H6 (O.c7 rfl hA) ac ?_;refine OY ?_;intros;refine R.ev (O.c7 rfl hA) ac ?_;have a2:¬cB=2:=B;refine OY ?_;intros;refine Ο.H6 (O.c7 rfl hA) ac ?_;refine OY ?_;intros;refine Ο.ca (iL os[i]!.bB.M _ _ os[i]!.bB.m.am rfl a3 Φ os[i]!.bB.m.to) ?_;rintro _ _⟨cU,fH,rfl,rfl⟩;refine OY ?_;intros;refine Ο.υ (Y:=Υ bJ 5 JD cU fH (I8 Φ os[i]!.bB.m.to os[i]!.bB.m.am)::Ρ G2 (I8 Φ os[i]!.bB.m.to os[i]!.bB.m.am)::obj nb B2 [al lb,E d,E Q,E ω,E hl,.map (some mb),.map (some mp),.map (some mr)]::aN lb S::(gy os[i]!.bB::ε (a0 .i64) 1 os[i]!.A7 os[i]!.Ι::obj pb JA [E cB,E Φ,ae ad os.length fe]::Υ cY 8 Jv ad fe os::Ρ G6 os::L)) ((A.k6 Φ os[i]!.bB.m.to os[i]!.bB.m.am).trans ag) ?_;refine Ο.ca (iI nb lb d Q ω hl mb mp mr c k S hS 2 G (I8 Φ os[i]!.bB.m.to os[i]!.bB.m.am) cU fH (lU _ _ _ _ (by unfold KJ;omega) _ a3 _ _) (by rw[jn,ik];exact hk)) ?_;rw[jn];rintro _ _⟨A7,C4,rfl,rfl⟩;simp only[cw];cases Kx:IG S 2 G (Ij Φ os[i]!.bB.m.to os[i]!.bB.m.am)
   .have hW:=io (d:=d) (F:=F) (cB:=cB) (G:=G) (Φ:=Φ) (S:=S) (to:=os[i]!.bB.m.to) (o:=os[i]!.m) h0 hB (by rw[Ω a2];rfl);rw[Ω (by rw[show Ij Φ os[i]!.bB.m.to os[i]!.m.bB.am=Ij Φ os[i]!.bB.m.to os[i]!.bB.m.am from rfl,Kx];exact em)] at hW;have I:=lA Kx;rw[I];refine OY ?_;intros;rw[hW];refine KX.a8 aw ?_ ⟨none,0,[],os[i]!,rfl,rfl,rfl⟩;rw[lw hi];refine(A.c8 aV 3 hy).trans ((A.a8 cV).trans ?_);exact ag
   .have hW:=io (d:=d) (F:=F) (cB:=cB) (G:=G) (Φ:=Φ) (S:=S) (to:=os[i]!.bB.m.to) (o:=os[i]!.m) h0 hB (by rw[Ω a2];rfl);rw[μ (by exact Kx)] at hW;refine OY ?_;intros;refine R.ev (O.c7 rfl hA) ac ?_;refine OY ?_;intros;refine R.I1 (Ef.d9 (Β:=cY) (e:=(⟨os[i]!.bB,os[i]!.eZ,2,os[i]!.Ι,os[i]!.A7,os[i]!.C4⟩:D5)) rfl rfl rfl rfl hi ac) ?_;rintro _ _ rfl;refine OY ?_;intros;rw[hW];refine KX.a8 aw ?_ ⟨none,0,[],(⟨os[i]!.bB,os[i]!.eZ,2,os[i]!.Ι,os[i]!.A7,os[i]!.C4⟩:D5),rfl,rfl,rfl⟩;refine(A.c8 aV 3 hy).trans ((A.a8 cV).trans ?_);refine(A.at (Μ:=Ρ G6 os) ((A.d8 r).trans (A.j6 (f:=G6) (x:=(⟨os[i]!.bB,os[i]!.eZ,2,os[i]!.Ι,os[i]!.A7,os[i]!.C4⟩:D5)) (i:=i) nA))).trans ?_;dsimp only[D5.m];exact ag
  .have hB:cB=1/\os[i]!.m.bB.ts≠d:=⟨b1,a7⟩;refine OY ?_;intros;refine Ο.H6 (O.c7 rfl hA) ac ?_;refine OY ?_;intros;refine Ο.H6 (O.c7 rfl hA) ac ?_;refine OY ?_;intros;refine Ο.ca (iL os[i]!.bB.M _ _ os[i]!.bB.m.am rfl a3 Φ 0) ?_;rintro _ _⟨cU,fH,rfl,rfl⟩;refine OY ?_;intros;refine Ο.υ (Y:=Υ bJ 5 JD cU fH (I8 Φ 0 os[i]!.bB.m.am)::Ρ G2 (I8 Φ 0 os[i]!.bB.m.am)::obj nb B2 [al lb,E d,E Q,E ω,E hl,.map (some mb),.map (some mp),.map (some mr)]::aN lb S::(gy os[i]!.bB::ε (a0 .i64) 1 os[i]!.A7 os[i]!.Ι::obj pb JA [E cB,E Φ,ae ad os.length fe]::Υ cY 8 Jv ad fe os::Ρ G6 os::L)) ((A.k6 Φ 0 os[i]!.bB.m.am).trans ag) ?_;refine Ο.ca (iI nb lb d Q ω hl mb mp mr c k S hS 6 G (I8 Φ 0 os[i]!.bB.m.am) cU fH (by grind [lU,KJ]) (by rw[jn,ik];exact hk)) ?_;rw[jn];rintro _ _⟨A7,C4,rfl,rfl⟩;simp only[cw];cases Kx:IG S 6 G (Ij Φ 0 os[i]!.bB.m.am)
   .have hW:=jA (d:=d) (F:=F) (cB:=cB) (G:=G) (Φ:=Φ) (S:=S) (o:=os[i]!.m) h0 hB;rw[Ω (by rw[show Ij Φ 0 os[i]!.m.bB.am=Ij Φ 0 os[i]!.bB.m.am from rfl,Kx];grind)] at hW;have I:=lA Kx;rw[I];refine OY ?_;intros;rw[hW];refine KX.a8 aw ?_ ⟨none,0,[],os[i]!,rfl,rfl,rfl⟩;rw[lw hi];refine(A.c8 aV 3 hy).trans ((A.a8 cV).trans ?_);exact ag
   .have hW:=jA (d:=d) (F:=F) (cB:=cB) (G:=G) (Φ:=Φ) (S:=S) (o:=os[i]!.m) h0 hB;rw[μ (by exact Kx)] at hW;refine OY ?_;intros;refine R.ev (O.c7 rfl hA) ac ?_;refine OY ?_;intros;refine R.I1 (Ef.d9 (Β:=cY) (e:=(⟨os[i]!.bB,os[i]!.eZ,1,os[i]!.Ι,os[i]!.A7,os[i]!.C4⟩:D5)) rfl rfl rfl rfl hi ac) ?_;rintro _ _ rfl;refine OY ?_;intros;refine R.ev (O.c7 rfl hA) ac ?_;refine R.ev (O.c8 rfl (by rw[bq];exact hi)) ac ?_;refine OY ?_;intros;refine R.I1 (Ef.d9 (Β:=cY) (e:=(⟨os[i]!.bB,os[i]!.eZ,1,Kc S 6 G (Ij Φ 0 os[i]!.bB.m.am),A7,C4⟩:D5)) rfl rfl (by rw[FF hi];rfl) rfl ay ac) ?_;rintro _ _ rfl;rw[List.set_set];have b2:=wv hS (by grind [ik]) Kx;have a9:=DE hS (Κ:=6) (G:=G) (show k+C2 (Ij Φ 0 os[i]!.bB.m.am)<=2000 by rw[ik];exact hk);generalize Ri:(⟨os[i]!.bB,os[i]!.eZ,1,Kc S 6 G (Ij Φ 0 os[i]!.bB.m.am),A7,C4⟩:D5)=e2 at *;have a5:Ma e2.m:=by rw[<-Ri];exact⟨a4.1,a4.2.1,by show(Kc S 6 G (Ij Φ 0 os[i]!.bB.m.am)).length<=1000;omega,a9⟩
    refine R.υ (Y:=Υ cY 8 Jv ad fe (os.set i e2)::Ρ G6 (os.set i e2)::G6 e2::obj nb B2 [al lb,E d,E Q,E ω,E hl,.map (some mb),.map (some mp),.map (some mr)]::aN lb (Jo S 6 G (Ij Φ 0 os[i]!.bB.m.am))::obj pb JA [E cB,E Φ,ae ad os.length fe]::L) ?_ ?_
    .refine(A.at (Μ:=Υ (a0 .i64) 1 kR A7 C4 (Kc S 6 G (Ij Φ 0 os[i]!.bB.m.am))) A.JC).trans ?_;refine A.trans (cq:=G6 e2::Ρ G6 os::Υ cY 8 Jv ad fe (os.set i e2)::obj nb B2 [al lb,E d,E Q,E ω,E hl,.map (some mb),.map (some mp),.map (some mr)]::aN lb (Jo S 6 G (Ij Φ 0 os[i]!.bB.m.am))::obj pb JA [E cB,E Φ,ae ad os.length fe]::L) ?_ ?_
     .refine A.trans (cq:=gy os[i]!.bB::ε (a0 .i64) 1 A7 (Kc S 6 G (Ij Φ 0 os[i]!.bB.m.am))::Ρ G6 os::Υ cY 8 Jv ad fe (os.set i e2)::obj nb B2 [al lb,E d,E Q,E ω,E hl,.map (some mb),.map (some mp),.map (some mr)]::aN lb (Jo S 6 G (Ij Φ 0 os[i]!.bB.m.am))::obj pb JA [E cB,E Φ,ae ad os.length fe]::L) ag ?_;rw[<-Ri];exact A.g8 (eD _) (cA _ _ _ _)
     .refine(A.dup (nA e2).Mx).trans ((A.c7 (A.j6 (f:=G6) (i:=i) nA)).trans ?_);exact ag
    refine OY ?_;intros;refine R.υ (Y:=obj nb B2 [al lb,E d,E Q,E ω,E hl,.map (some mb),.map (some mp),.map (some mr)]::G6 e2::(Υ cY 8 Jv ad fe (os.set i e2)::Ρ G6 (os.set i e2)::aN lb (Jo S 6 G (Ij Φ 0 os[i]!.bB.m.am))::obj pb JA [E cB,E Φ,ae ad os.length fe]::L)) ag ?_;refine R.ca (nW nb lb d Q ω hl mb mp mr F b0 ad hA (os.set i e2) i ay e2 (FF hi e2) a5) ?_;rintro _ _⟨y,rfl,Z,rfl⟩;simp only[cw];refine OY ?_;intros;rename_i a6;rw[hW];refine KX.a8 aw ?_ ⟨some ⟨a6,0,none⟩,1,[y],e2,rfl,?_,rfl⟩
    .refine(A.at (Μ:=cV y) (A.d7 (f:=cV) ed)).trans ?_;refine(A.at (Μ:=obj a6 hy [E y.m.Ψ,E y.m.to,ae y.M (IQ y.m.ct).length y.cap]) (A.d9 (Β:=aV) (sz:=3) (D:=[y]) (n:=1) (by simp only[aR,cH,aJ];rfl) rfl (by intro x K;rfl) ac)).trans ?_;dsimp only[D5.m];exact ag
    .rw[aF,aY,Z,<-Ri];rfl
 .have hB:¬(cB=1/\os[i]!.m.bB.ts≠d):=B;refine OY ?_;intros;refine R.ev (O.c7 rfl hA) ac ?_;by_cases a2:cB=2
  .refine OY ?_;intros;refine R.ev (O.c7 rfl hA) ac ?_;refine OY ?_;intros;refine Ο.H6 (O.c7 rfl hA) ac ?_;refine OY ?_;intros;refine Ο.ca (iL os[i]!.bB.M _ _ os[i]!.bB.m.am rfl a3 Φ os[i]!.bB.m.fr) ?_;rintro _ _⟨cU,fH,rfl,rfl⟩;refine OY ?_;intros;refine Ο.υ (Y:=Υ bJ 5 JD cU fH (I8 Φ os[i]!.bB.m.fr os[i]!.bB.m.am)::Ρ G2 (I8 Φ os[i]!.bB.m.fr os[i]!.bB.m.am)::obj nb B2 [al lb,E d,E Q,E ω,E hl,.map (some mb),.map (some mp),.map (some mr)]::aN lb S::(gy os[i]!.bB::ε (a0 .i64) 1 os[i]!.A7 os[i]!.Ι::obj pb JA [E cB,E Φ,ae ad os.length fe]::Υ cY 8 Jv ad fe os::Ρ G6 os::L)) ((A.k6 Φ os[i]!.bB.m.fr os[i]!.bB.m.am).trans ag) ?_;refine Ο.ca (iI nb lb d Q ω hl mb mp mr c k S hS 2 G (I8 Φ os[i]!.bB.m.fr os[i]!.bB.m.am) cU fH (by grind [lU,KJ]) (by rw[jn,ik];exact hk)) ?_;rw[jn];rintro _ _⟨A7,C4,rfl,rfl⟩;simp only[cw];cases Kx:IG S 2 G (Ij Φ os[i]!.bB.m.fr os[i]!.bB.m.am)
   .have hW:=io (d:=d) (F:=F) (cB:=cB) (G:=G) (Φ:=Φ) (S:=S) (to:=os[i]!.bB.m.fr) (o:=os[i]!.m) h0 hB (by rw[μ a2];rfl);rw[Ω (by rw[show Ij Φ os[i]!.bB.m.fr os[i]!.m.bB.am=Ij Φ os[i]!.bB.m.fr os[i]!.bB.m.am from rfl,Kx];grind)] at hW;have I:=lA Kx;rw[I];refine OY ?_;intros;rw[hW];refine KX.a8 aw ?_ ⟨none,0,[],os[i]!,rfl,rfl,rfl⟩;rw[lw hi];refine(A.c8 aV 3 hy).trans ((A.a8 cV).trans ?_);exact ag
   .have hW:=io (d:=d) (F:=F) (cB:=cB) (G:=G) (Φ:=Φ) (S:=S) (to:=os[i]!.bB.m.fr) (o:=os[i]!.m) h0 hB (by rw[μ a2];rfl);rw[μ (by exact Kx)] at hW;refine OY ?_;intros;refine R.ev (O.c7 rfl hA) ac ?_;refine OY ?_;intros;refine R.I1 (Ef.d9 (Β:=cY) (e:=(⟨os[i]!.bB,os[i]!.eZ,2,os[i]!.Ι,os[i]!.A7,os[i]!.C4⟩:D5)) rfl rfl rfl rfl hi ac) ?_;rintro _ _ rfl;refine OY ?_;intros;rw[hW];refine KX.a8 aw ?_ ⟨none,0,[],(⟨os[i]!.bB,os[i]!.eZ,2,os[i]!.Ι,os[i]!.A7,os[i]!.C4⟩:D5),rfl,rfl,rfl⟩;refine(A.c8 aV 3 hy).trans ((A.a8 cV).trans ?_);refine(A.at (Μ:=Ρ G6 os) ((A.d8 r).trans (A.j6 (f:=G6) (x:=(⟨os[i]!.bB,os[i]!.eZ,2,os[i]!.Ι,os[i]!.A7,os[i]!.C4⟩:D5)) (i:=i) nA))).trans ?_;dsimp only[D5.m];exact ag
  .refine OY ?_;intros;refine Ο.H6 (O.c7 rfl hA) ac ?_;refine OY ?_;intros;refine Ο.ca (iL os[i]!.bB.M _ _ os[i]!.bB.m.am rfl a3 Φ os[i]!.bB.m.to) ?_;rintro _ _⟨cU,fH,rfl,rfl⟩;refine OY ?_;intros;refine Ο.υ (Y:=Υ bJ 5 JD cU fH (I8 Φ os[i]!.bB.m.to os[i]!.bB.m.am)::Ρ G2 (I8 Φ os[i]!.bB.m.to os[i]!.bB.m.am)::obj nb B2 [al lb,E d,E Q,E ω,E hl,.map (some mb),.map (some mp),.map (some mr)]::aN lb S::(gy os[i]!.bB::ε (a0 .i64) 1 os[i]!.A7 os[i]!.Ι::obj pb JA [E cB,E Φ,ae ad os.length fe]::Υ cY 8 Jv ad fe os::Ρ G6 os::L)) ((A.k6 Φ os[i]!.bB.m.to os[i]!.bB.m.am).trans ag) ?_;refine Ο.ca (iI nb lb d Q ω hl mb mp mr c k S hS 2 G (I8 Φ os[i]!.bB.m.to os[i]!.bB.m.am) cU fH (lU _ _ _ _ (by unfold KJ;omega) _ a3 _ _) (by rw[jn,ik];exact hk)) ?_;rw[jn];rintro _ _⟨A7,C4,rfl,rfl⟩;simp only[cw];cases Kx:IG S 2 G (Ij Φ os[i]!.bB.m.to os[i]!.bB.m.am)
   .have hW:=io (d:=d) (F:=F) (cB:=cB) (G:=G) (Φ:=Φ) (S:=S) (to:=os[i]!.bB.m.to) (o:=os[i]!.m) h0 hB (by rw[Ω a2];rfl);rw[Ω (by rw[show Ij Φ os[i]!.bB.m.to os[i]!.m.bB.am=Ij Φ os[i]!.bB.m.to os[i]!.bB.m.am from rfl,Kx];exact em)] at hW;have I:=lA Kx;rw[I];refine OY ?_;intros;rw[hW];refine KX.a8 aw ?_ ⟨none,0,[],os[i]!,rfl,rfl,rfl⟩;rw[lw hi];refine(A.c8 aV 3 hy).trans ((A.a8 cV).trans ?_);exact ag
   .have hW:=io (d:=d) (F:=F) (cB:=cB) (G:=G) (Φ:=Φ) (S:=S) (to:=os[i]!.bB.m.to) (o:=os[i]!.m) h0 hB (by rw[Ω a2];rfl);rw[μ (by exact Kx)] at hW;refine OY ?_;intros;refine R.ev (O.c7 rfl hA) ac ?_;refine OY ?_;intros;refine R.I1 (Ef.d9 (Β:=cY) (e:=(⟨os[i]!.bB,os[i]!.eZ,2,os[i]!.Ι,os[i]!.A7,os[i]!.C4⟩:D5)) rfl rfl rfl rfl hi ac) ?_;rintro _ _ rfl;refine OY ?_;intros;rw[hW];refine KX.a8 aw ?_ ⟨none,0,[],(⟨os[i]!.bB,os[i]!.eZ,2,os[i]!.Ι,os[i]!.A7,os[i]!.C4⟩:D5),rfl,rfl,rfl⟩;refine(A.c8 aV 3 hy).trans ((A.a8 cV).trans ?_);refine(A.at (Μ:=Ρ G6 os) ((A.d8 r).trans (A.j6 (f:=G6) (x:=(⟨os[i]!.bB,os[i]!.eZ,2,os[i]!.Ι,os[i]!.A7,os[i]!.C4⟩:D5)) (i:=i) nA))).trans ?_;dsimp only[D5.m];exact ag
end
section
open Go.V
structure J7 where
 Η:List G7
 B3:List Int
 Ev:Int
 G5:List Int
 told:List Int
 dec:Bool
 I4:Bool
 deriving Inhabited,DecidableEq
def JR.m(x:JR):J7:=⟨x.Η.map (·.m),x.B3,x.Ev,x.G5,x.told,x.dec,x.I4⟩
structure eu where
 ω:Int
 hl:Int
 δ:List (Int×J7)
 Ζ:List (Int×Lb)
 C1:List (Int×Int)
 deriving Inhabited
def TW(x:JR):HP:=bW [obj x.b KL (Jn x),τ cu bE x.mv (I3 x.G5),τ cu bE x.mt (I3 x.told),ε aW 5 x.ad x.Η,Ρ gy x.Η,ε (a0 .i64) 1 x.Jh x.B3]
def TX(p:H7):HP:=bW [obj p.b JA (J2 p),Υ cY 8 Jv p.ad p.fe p.Η,Ρ G6 p.Η]
def F7(p:Int×JR):HP:=TW p.2
def F2(p:Int×H7):HP:=TX p.2
def cc(x:JR):Value:=.pointer (some ⟨x.b,0,none⟩)
def cg(p:H7):Value:=.pointer (some ⟨p.b,0,none⟩)
def G8(l:List (Int×Int)):List ((Int×Int)×Bool):=l.map λg=>(g,true)
structure E0 where
 mb:Nat
 mp:Nat
 mr:Nat
 ω:Int
 hl:Int
 δ:List (Int×JR)
 Ζ:List (Int×H7)
 C1:List (Int×Int)
 deriving Inhabited
def LI{κ α β:Type}(f:α->β)(l:List (κ×α)):List (κ×β):=l.map λp=>(p.1,f p.2)
def E0.m(n:E0):eu:=⟨n.ω,n.hl,LI JR.m n.δ,LI H7.m n.Ζ,n.C1⟩
def a1(nb lb:Nat)(d Q:Int)(n:E0)(L:LH):LH:=obj nb B2 (cw lb d Q n.ω n.hl n.mb n.mp n.mr)::τ cu cc n.mb n.δ::ew F7 n.δ::τ cu cg n.mp n.Ζ::ew F2 n.Ζ::τ B7 bE n.mr (G8 n.C1)::L
section
variable {κ α β:Type}[DecidableEq κ]
def qA(f:α->β)(k:κ):∀l:List (κ×α),dV (LI f l) k=(dV l k).map f
 | []=>rfl
 | p::l=>by
  obtain⟨q,a⟩:=p;have ih:=qA f k l;unfold dV LI at ih ⊢;rw[aF,cj,cj];by_cases h:k=q
  .subst h;simp
  .have U:(k == q)=false:=by simpa using h
   simp only[U,ih]
omit [DecidableEq κ] in
def iU(f:α->β)(l:List (κ×α)):(LI f l).map (·.1)=l.map (·.1):=by
 unfold LI;rw[cO];rfl
theorem jE(f:α->β)(k:κ)(a:α)(l:List (κ×α)):LI f (fc l k a)=fc (LI f l) k (f a):=by
 grind [LI,List.any_map,fc,cK]
theorem nK{l:List (κ×α)}{k:κ}{x:α}(h:dV l k=some x)(a:α):fc l k a=l.map λp=>if p.1=k then(k,a) else p:=by
 unfold fc;rw[μ];refine List.any_eq_true.2 ⟨(k,x),bT h,by simp⟩
theorem qD{l:List (κ×α)}{k:κ}(h:dV l k=none)(a:α):fc l k a=l++[(k,a)]:=by
 unfold fc;rw[Ω];intro q;obtain⟨p,J,U⟩:=List.any_eq_true.1 q;exact lM h ay
theorem A.l5{kv:κ->Value}{Β:α->Value}{b:Nat}{l:List (κ×α)}{k:κ}{x a:α}(h:dV l k=some x)(hn:(l.map (·.1)).Nodup)(he:Β a=Β x){L:LH}:A (τ kv Β b l::L) (τ kv Β b (fc l k a)::L):=λθ Α w s=>by
 obtain⟨es,r,J,U,h3,h4,h5,s2⟩:=Sat.Nu (L:=L++Α) s;refine Sat.c8 s2 ?_ (gY U) h3 h4 h5;rw[J,nK h,cO];refine cK λp hp=>?_;simp only[Function.comp_apply];by_cases q:p.1=k
 .rw[μ q];have I:dV l p.1=some p.2:=gP hn hp;grind
 grind
def A.k9{f:κ×α->HP}{l:List (κ×α)}{k:κ}{x:α}(hn:(l.map (·.1)).Nodup)(h:dV l k=some x){L:LH}:A (ew f l::L) (f (k,x)::ew f (GO l k)::L):=(A.j8 (mj hn h)).trans A.Ql
def A.k7{f:κ×α->HP}{l:List (κ×α)}{k:κ}(hn:(l.map (·.1)).Nodup)(a:α){L:LH}:A (f (k,a)::ew f (GO l k)::L) (ew f (fc l k a)::L):=(A.Qk (f:=f) (x:=(k,a))).trans (A.j8 (tu hn).symm)
end
def Ji(l:List Int)(a:Int):List Int:=if a∈l then l else l++[a]
theorem zl(l:List Int)(a:Int):fc (I3 l) a true=I3 (Ji l a):=by
 unfold Ji;split
 .rename_i h;have hs:∀(l:List Int),dV (I3 l) a=none->a∉l:=λl h q=>lM h (List.mem_map.2 ⟨(a,true),List.mem_map.2 ⟨a,q,rfl⟩,rfl⟩);cases hg:dV (I3 l) a with
  | none=>grind
  | some b =>
   grind [nK,I3,cK]
 grind [dV,I3,qD]
def J8(x:JR)(L:LH):LH:=obj x.b KL (Jn x)::τ cu bE x.mv (I3 x.G5)::τ cu bE x.mt (I3 x.told)::ε aW 5 x.ad x.Η::Ρ gy x.Η::ε (a0 .i64) 1 x.Jh x.B3::L
def oX{n:E0}{F:Int}{x:JR}(hn:(n.δ.map (·.1)).Nodup)(h:List.lookup F n.δ=some x){L:LH}:A (ew F7 n.δ::L) (J8 x (ew F7 (GO n.δ F)::L)):=(A.k9 hn h).trans A.NN
def sD{n:E0}{F:Int}{x:JR}(hn:(n.δ.map (·.1)).Nodup)(h:List.lookup F n.δ=some x)(y:JR)(hb:y.b=x.b){L:LH}:A (τ cu cc n.mb n.δ::J8 y (ew F7 (GO n.δ F)::L)) (τ cu cc n.mb (fc n.δ F y)::ew F7 (fc n.δ F y)::L):=by
 refine(A.l5 (a:=y) h hn (by unfold cc;rw[hb])).trans (A.c7 ?_);refine A.trans (cq:=F7 (F,y)::ew F7 (GO n.δ F)::L) ?_ (A.k7 hn y);exact A.f8 (Μ:=[obj y.b KL (Jn y),τ cu bE y.mv (I3 y.G5),τ cu bE y.mt (I3 y.told),ε aW 5 y.ad y.Η,Ρ gy y.Η,ε (a0 .i64) 1 y.Jh y.B3])
def Ku(p:H7)(L:LH):LH:=obj p.b JA (J2 p)::Υ cY 8 Jv p.ad p.fe p.Η::Ρ G6 p.Η::L
def lI{n:E0}{F:Int}{x:H7}(hn:(n.Ζ.map (·.1)).Nodup)(h:List.lookup F n.Ζ=some x){L:LH}:A (ew F2 n.Ζ::L) (Ku x (ew F2 (GO n.Ζ F)::L)):=(A.k9 hn h).trans A.NN
def zr{n:E0}{F:Int}{x:H7}(hn:(n.Ζ.map (·.1)).Nodup)(h:List.lookup F n.Ζ=some x)(y:H7)(hb:y.b=x.b){L:LH}:A (τ cu cg n.mp n.Ζ::Ku y (ew F2 (GO n.Ζ F)::L)) (τ cu cg n.mp (fc n.Ζ F y)::ew F2 (fc n.Ζ F y)::L):=by
 refine(A.l5 (a:=y) h hn (by unfold cg;rw[hb])).trans (A.c7 ?_);refine A.trans (cq:=F2 (F,y)::ew F2 (GO n.Ζ F)::L) ?_ (A.k7 hn y);exact A.f8 (Μ:=[obj y.b JA (J2 y),Υ cY 8 Jv y.ad y.fe y.Η,Ρ G6 y.Η])
theorem HT{n:E0}{F:Int}(hn:(n.Ζ.map (·.1)).Nodup)(h:List.lookup F n.Ζ=none)(y:H7){L:LH}:A (Ku y (ew F2 n.Ζ::L)) (ew F2 (fc n.Ζ F y)::L):=by
 have e:GO n.Ζ F=n.Ζ:=nL ay;refine A.trans (cq:=F2 (F,y)::ew F2 (GO n.Ζ F)::L) ?_ (A.k7 hn y);rw[e];exact A.f8 (Μ:=[obj y.b JA (J2 y),Υ cY 8 Jv y.ad y.fe y.Η,Ρ G6 y.Η])
def jy{nb lb:Nat}{d Q:Int}{n:E0}{F:Int}{x:JR}(hn:(n.δ.map (·.1)).Nodup)(h:List.lookup F n.δ=some x)(y:JR)(hb:y.b=x.b){L:LH}:A (τ cu cc n.mb n.δ::J8 y (ew F7 (GO n.δ F)::obj nb B2 (cw lb d Q n.ω n.hl n.mb n.mp n.mr)::τ cu cg n.mp n.Ζ::ew F2 n.Ζ::τ B7 bE n.mr (G8 n.C1)::L)) (a1 nb lb d Q { n with δ:=fc n.δ F y } L):=by
 refine(sD hn h y hb).trans ?_;simp only[a1];exact ag
def iB{nb lb:Nat}{d Q:Int}{n:E0}{F:Int}{x:H7}(hn:(n.Ζ.map (·.1)).Nodup)(h:List.lookup F n.Ζ=some x)(y:H7)(hb:y.b=x.b){L:LH}:A (τ cu cg n.mp n.Ζ::Ku y (ew F2 (GO n.Ζ F)::obj nb B2 (cw lb d Q n.ω n.hl n.mb n.mp n.mr)::τ cu cc n.mb n.δ::ew F7 n.δ::τ B7 bE n.mr (G8 n.C1)::L)) (a1 nb lb d Q { n with Ζ:=fc n.Ζ F y } L):=by
 refine(zr hn h y hb).trans ?_;simp only[a1];exact ag
def pF(n:E0)(F:Int)(y:JR):({ n with δ:=fc n.δ F y }:E0).m={ n.m with δ:=fc n.m.δ F y.m }:=by simp only[E0.m,jE]
def ma(n:E0)(F:Int)(y:H7):({ n with Ζ:=fc n.Ζ F y }:E0).m={ n.m with Ζ:=fc n.m.Ζ F y.m }:=by simp only[E0.m,jE]
def fo{n:E0}{F:Int}:dV n.m.δ F=(List.lookup F n.δ).map JR.m:=qA JR.m F n.δ
def eQ{n:E0}{F:Int}:dV n.m.Ζ F=(List.lookup F n.Ζ).map H7.m:=qA H7.m F n.Ζ
