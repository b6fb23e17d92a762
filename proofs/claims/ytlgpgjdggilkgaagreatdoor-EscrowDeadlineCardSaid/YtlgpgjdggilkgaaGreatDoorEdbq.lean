/- Lemmas. -/
import Derived.Test.YtlgpgjdggilkgaaGreatDoorEdbp
set_option linter.all false
namespace Go.Proofs.YtlgpgjdggilkgaaGreatDoor
section
open Go.V
def UC(O:List fK)(r k:Int):Prop:=∃y∈O,y.ct.r=r/\(y.ct.Ζ=3/\y.to=k\/y.ct.Ζ=4/\y.Ν=k)
def UD(O:List fK)(r ix:Int):Prop:=∃y∈O,y.ct.r=r/\y.ct.ai=ix/\(y.ct.Ζ=5\/y.ct.Ζ=6)
def S8(N:ω)(O:List fK)(r:Int):Prop:=∀x,ε N.Ψ r=some x->x.dec=true/\∀k∈x.lq,k∈x.told\/UC O r k
def VL(N:ω)(O:List fK)(r:Int):Prop:=∀p,ε N.Γ r=some p->∀o∈p.Α,o.state=1->UD O r o.ai
def UC.mono{O A : List fK}{r k:Int}(h:UC O r k)(hm:∀y∈O,y∈A):UC A r k:=by
 obtain⟨y,I,Q⟩:=h;exact⟨y,hm y I,Q⟩
def UD.mono{O A : List fK}{r k:Int}(h:UD O r k)(hm:∀y∈O,y∈A):UD A r k:=by
 obtain⟨y,I,Q⟩:=h;exact⟨y,hm y I,Q⟩
section
variable {i Ν B:Int}{m:G4}{N:ω}{S:Τ}
def EQ(hk:m.Ζ=3):∃y∈(aX i Ν m B N S).1,y.ct.r=m.r/\y.ct.Ζ=4/\y.Ν=i:=by
 unfold aX;rw[Ο D,Ο D,Ω hk];unfold dq;cases hp:ε N.Γ m.r with
 | none=>exact⟨_,List.mem_singleton.2 rfl,rfl,rfl,rfl⟩
 | some p =>
  dsimp only;split
  .exact⟨_,cj _ (List.mem_singleton.2 rfl),rfl,rfl,rfl⟩
  .exact⟨_,List.mem_singleton.2 rfl,rfl,rfl,rfl⟩
def GN(hk:m.Ζ=5)(h:(m.r,m.ai)∉N.wk->(m.Α.length=1/\m.Μ.length=m.Α[0]!.am.length)/\E6 S 5 B (G7 m.Α[0]!.to m.Α[0]!.am m.Μ)=true):∃y∈(aX i Ν m B N S).1,y.ct.r=m.r/\y.ct.ai=m.ai/\y.ct.Ζ=6:=by
 unfold aX;rw[Ο D,Ο D,Ο D,Ο D,Ω hk];unfold dS;by_cases hr:(m.r,m.ai)∈N.wk
 .rw[Ω hr];exact⟨_,List.mem_singleton.2 rfl,rfl,rfl,rfl⟩
 .obtain⟨I,Q⟩:=h hr;rw[Ο hr,Ω I,Ω Q];exact⟨_,List.mem_singleton.2 rfl,rfl,rfl,rfl⟩
theorem IV{x:K4}(hk:m.Ζ=4)(M:ε N.Ψ m.r=some x):ε (aX i Ν m B N S).2.1.Ψ m.r=some { x with told:=ND x.told Ν }:=by
 grind [aX,gd,ω.J2,cF]
theorem vB:∀r x',ε (aX i Ν m B N S).2.1.Ψ r=some x'->∃x,ε N.Ψ r=some x/\x'.C7=x.C7/\(x.C7<B->x.F4=false->x'.F4=false):=by
 have same:∀{b:List (Int×K4)},b=N.Ψ->∀r x',ε b r=some x'->∃x,ε N.Ψ r=some x/\x'.C7=x.C7/\(x.C7<B->x.F4=false->x'.F4=false):=ah;have set:∀{x y:K4},ε N.Ψ m.r=some x->y.C7=x.C7->(x.C7<B->x.F4=false->y.F4=false)->∀r x',ε (ez N.Ψ m.r y) r=some x'->∃x,ε N.Ψ r=some x/\x'.C7=x.C7/\(x.C7<B->x.F4=false->x'.F4=false):=by grind [cF]
 unfold aX;by_cases k1:m.Ζ=1
 .grind [eM]
 rw[Ο k1];by_cases k2:m.Ζ=2
 .rw[Ω k2];unfold eu;cases M:ε N.Ψ m.r with
  | none=>exact same rfl
  | some x =>
   dsimp only;split
   .exact same rfl
   split
   .exact set M rfl λ_ _=>rfl
   split
   .grind
   .exact set M rfl λT _=>bz D
 rw[Ο k2];by_cases k3:m.Ζ=3
 .grind [dq]
 grind [gd,ω.J2,dS,OI,ω.K5]
theorem IS{nd:M3}{F:Int}{g:Gh}(hT:∀r p,ε N.Γ r=some p->RE F g nd i r p):∀r p',ε (aX i Ν m B N S).2.1.Γ r=some p'->∀o'∈p'.Α,o'.state=1->(∃y∈(aX i Ν m B N S).1,y.ct.r=r/\y.ct.ai=o'.ai/\y.ct.Ζ=5)\/∃p,ε N.Γ r=some p/\∃o∈p.Α,o.state=1/\o.ai=o'.ai/\¬(m.Ζ=6/\m.r=r/\m.ai=o'.ai):=by
 have same:∀{O:List fK} {b:List (Int×Nl)},b=N.Γ->¬m.Ζ=6->∀r p',ε b r=some p'->∀o'∈p'.Α,o'.state=1->(∃y∈O,y.ct.r=r/\y.ct.ai=o'.ai/\y.ct.Ζ=5)\/∃p,ε N.Γ r=some p/\∃o∈p.Α,o.state=1/\o.ai=o'.ai/\¬(m.Ζ=6/\m.r=r/\m.ai=o'.ai):=ah;have set:∀{O:List fK} {y:Nl},¬m.Ζ=6->(∀o'∈y.Α,o'.state=1->∃z∈O,z.ct.r=m.r/\z.ct.ai=o'.ai/\z.ct.Ζ=5)->∀r p',ε (ez N.Γ m.r y) r=some p'->∀o'∈p'.Α,o'.state=1->(∃y∈O,y.ct.r=r/\y.ct.ai=o'.ai/\y.ct.Ζ=5)\/∃p,ε N.Γ r=some p/\∃o∈p.Α,o.state=1/\o.ai=o'.ai/\¬(m.Ζ=6/\m.r=r/\m.ai=o'.ai):=by grind [cF]
 unfold aX;by_cases k1:m.Ζ=1
 .rw[Ω k1];unfold eM;cases hp:ε N.Γ m.r with
  | some p=>grind
  | none =>
   dsimp only;split
   .refine set D λo ho hs=>?_;have:=(iX ho).2.2
    omega
   .exact set D ah
 rw[Ο k1];by_cases k2:m.Ζ=2
 .grind [eu]
 rw[Ο k2];by_cases k3:m.Ζ=3
 .rw[Ω k3];unfold dq;cases hp:ε N.Γ m.r with
  | none=>exact set D ah
  | some p =>
   dsimp only;split
   .rename_i h0;rw[iC];refine set D λo ho hs=>?_;rcases (oF (f:=bY i m.r (if m.yes=true then 1 else 2) p.Κ B) (λo S=>oC o S) p.Α S).Sk o ho hs with q|q
    .have:=((hT _ _ hp).ow o q).s0 h0
     omega
    .exact⟨_,cx _ q,rfl,rfl,rfl⟩
   grind
 rw[Ο k3];by_cases k4:m.Ζ=4
 .grind [gd,ω.J2]
 rw[Ο k4];by_cases k5:m.Ζ=5
 .grind [dS]
 rw[Ο k5];by_cases k6:m.Ζ=6
 .rw[Ω k6];unfold OI ω.K5;cases hp:ε N.Γ m.r with
  | none =>
   grind
  | some p =>
   grind [eY,cF]
 grind
end
section
variable {F:Int}{g:Gh}{R:List Int}{W:jA}{m:fK}{b:Nat}{b0:Int->Int->Int->Int}{cR:List fK}
theorem Jg(h:OF F b b0 g R W)(hp:W.O.Perm (m::cR)){j r:Int}(hj:0<=j/\j<F)(hC:S8 (W.nf j) W.O r):S8 ((W.put m.to (aX m.to m.Ν m.ct W.B (W.nd m.to).1 (W.nd m.to).2) cR).nf j) (W.put m.to (aX m.to m.Ν m.ct W.B (W.nd m.to).1 (W.nd m.to).2) cR).O r:=λx' A=>by
 have a2:m∈W.O:=ah;obtain⟨hi,hT,hJ,_⟩:=h.room a2;have J:=h.len;have e:=h.nf hi;rw[jM D] at A
 have a4:∃x,ε (W.nf j).Ψ r=some x/\x'.lq=x.lq/\(x.dec=true->x'.dec=true)/\(∀k∈x.told,k∈x'.told)/\(m.ct.Ζ=4->m.ct.r=r->m.Ν∈x'.told):=by
  have hB:∀r x,ε (W.nf m.to).Ψ r=some x->g.Β r=some x.Α:=by rw[e];exact(h.cv.cv.nd m.to hi).bg
  have hA:=zC (i:=m.to) (Ν:=m.Ν) (m:=m.ct) (B:=W.B) (S:=(W.nd m.to).2) h.ag hB h.gr hi hT hJ;by_cases q:j=m.to
  .rw[q,eA] at A;obtain⟨x,M,_⟩:=vB _ _ A;rw[<-e] at M;obtain⟨x2,r1,_,r3,r4,r5⟩:=hA.le.bg _ _ M;rw[e,A] at r1;obtain rfl:=O3 r1;refine⟨x,ah,r3,λz=>(r4 z).1,r5,λk4 a3=>?_⟩;grind [IV,VK]
  .rw[fH _ q] at A;refine⟨x',A,rfl,λz=>z,λ_ z=>z,λk4 a3=>?_⟩;have a5:=(h.ag.bg j hj r x' A).1;obtain⟨ls,_,_,r3⟩:=hT.G5;grind
 obtain⟨x,M,hg,hd,ht,h4⟩:=a4;obtain⟨q1,q2⟩:=hC x M;refine⟨hd q1,λk hk=>?_⟩;rw[hg] at hk;rcases q2 k hk with q|⟨y,y1,y2,y3⟩
 .grind
 rcases L7 (hp.mem_iff.1 y1) with rfl|y1
 .rcases y3 with⟨z1,z2⟩|⟨z1,z2⟩
  .obtain⟨w,w1,w2,w3,w4⟩:=EQ (i:=y.to) (Ν:=y.Ν) (B:=W.B) (N:=(W.nd y.to).1) (S:=(W.nd y.to).2) z1;exact .inr ⟨w,cj _ w1,w2.trans y2,.inr ⟨w3,w4.trans z2⟩⟩
  grind
 .exact .inr ⟨y,cx _ y1,y2,y3⟩
theorem OF.imp(h:OF F b b0 g R W)(hm:m∈W.O)(hk:m.ct.Ζ=5):(m.ct.r,m.ct.ai)∉(W.nd m.to).1.wk->(m.ct.Α.length=1/\m.ct.Μ.length=m.ct.Α[0]!.am.length)/\E6 (W.nd m.to).2 5 W.B (G7 m.ct.Α[0]!.to m.ct.Α[0]!.am m.ct.Μ)=true:=λhr=>by
 obtain⟨hi,hT,hJ,_,r5,_⟩:=h.room hm;have hK:=h.nd m.to hi;have A:=h.MY;exact LU (Ν:=m.Ν) (m:=m.ct) h.cv.cv.gh (h.cv.cv.nd m.to hi) hK.hd hK.tt h.gr hi D hT hJ hk hr ah h.B.2
theorem Jf(h:OF F b b0 g R W)(hp:W.O.Perm (m::cR)){j r:Int}(hj:0<=j/\j<F)(hC:VL (W.nf j) W.O r):VL ((W.put m.to (aX m.to m.Ν m.ct W.B (W.nd m.to).1 (W.nd m.to).2) cR).nf j) (W.put m.to (aX m.to m.Ν m.ct W.B (W.nd m.to).1 (W.nd m.to).2) cR).O r:=λp' A o' J a3=>by
 have a2:m∈W.O:=ah;obtain⟨hi,hT,hJ,_⟩:=h.room a2;have a5:=h.len;have e:=h.nf hi;rw[jM D] at A
 have a7:(∃y∈(aX m.to m.Ν m.ct W.B (W.nd m.to).1 (W.nd m.to).2).1,y.ct.r=r/\y.ct.ai=o'.ai/\y.ct.Ζ=5)\/∃p,ε (W.nf j).Γ r=some p/\∃o∈p.Α,o.state=1/\o.ai=o'.ai/\¬(m.ct.Ζ=6/\m.ct.r=r/\m.ct.ai=o'.ai):=by
  by_cases q:j=m.to
  .rw[q,eA] at A;rw[q,e];exact IS (nd:=W.nf) (F:=F) (g:=g) (by rw[<-e];exact h.ag.pt m.to hi) r p' A o' J a3
  .rw[fH _ q] at A;refine .inr ⟨p',A,o',J,a3,rfl,λz=>?_⟩;obtain⟨⟨l,l1,l2,_⟩,_⟩:=hT.go z.1;have l1:g.Χ (m.ct.r,m.ct.ai)=some l:=l1;obtain⟨r1,r2⟩:=(h.ag.pt j hj r p' A).Χ J;grind
 rcases a7 with⟨y,y1,y2,y3,y4⟩|⟨p,a6,o,ho,hs,a4,a9⟩
 .exact⟨y,cj _ y1,y2,y3,.inl y4⟩
 obtain⟨y,y1,y2,y3,y4⟩:=hC p a6 o ho hs;rcases L7 (hp.mem_iff.1 y1) with rfl|y1
 .rcases y4 with y4|y4
  .obtain⟨w,w1,w2,w3,w4⟩:=GN (i:=y.to) (Ν:=y.Ν) (B:=W.B) (N:=(W.nd y.to).1) (S:=(W.nd y.to).2) y4 (h.imp a2 y4);exact⟨w,cj _ w1,w2.trans y2,w3.trans D,.inr w4⟩
  omega
 .exact⟨y,cx _ y1,y2,y3.trans a4,y4⟩
end
end
section
open Go.V
structure C8 (F:Int) (b:Nat) (b0:Int->Int->Int->Int) (R:List Int) (g0:Gh) (B3:Int) (lp:Int->Prop) (C1 C2:Int->Int->Prop) (p:Nat) (W:jA):Prop where
 ex:∃g,g.Β=g0.Β/\OF F b b0 g R W/\Pp g R F W<=p
 un:∀j:Int,0<=j/\j<F->∀r x,ε (W.nf j).Ψ r=some x->x.C7<=B3
 no:∀r,lp r->B3<W.B/\∀j:Int,0<=j/\j<F->∀x,ε (W.nf j).Ψ r=some x->x.F4=false
 c1:∀j r:Int,0<=j/\j<F->C1 j r->S8 (W.nf j) W.O r
 c2:∀j r:Int,0<=j/\j<F->C2 j r->VL (W.nf j) W.O r
section
variable {F:Int}{b:Nat}{b0:Int->Int->Int->Int}{R:List Int}{g0:Gh}{B3:Int}{lp:Int->Prop}{C1 C2:Int->Int->Prop}{p q:Nat}{W W' : jA}{i r:Int}{m:fK}{cR:List fK}
def C8.MY(h:C8 F b b0 R g0 B3 lp C1 C2 p W):(W.D8.length:Int)=F/\1<=F/\F<=3:=by
 obtain⟨g,_,hP,_⟩:=h.ex;exact⟨hP.len,hP.MY⟩
theorem C8.perm(h:C8 F b b0 R g0 B3 lp C1 C2 p W)(hn:W'.D8=W.D8)(ht:W'.B=W.B)(hm:W'.O.Perm W.O):C8 F b b0 R g0 B3 lp C1 C2 p W':=by
 obtain⟨g,e,hP,hp⟩:=h.ex;have e2:W'.nf=W.nf:=by unfold jA.nf jA.nd;rw[hn]
 refine⟨⟨g,e,hP.perm hn ht ah,by rw[Iq hn hm];exact hp⟩,by rw[e2];exact h.un,by rw[e2,ht];exact h.no,λj r hj hc x M=>?_,λj r hj hc p hp o ho hs=>?_⟩
 .rw[e2] at M;obtain⟨q1,q2⟩:=h.c1 j r hj hc x M;exact⟨q1,λk hk=>(q2 k hk).imp_right λz=>z.mono ah⟩
 .rw[e2] at hp;exact(h.c2 j r hj hc p hp o ho hs).mono ah
theorem C8.mono(h:C8 F b b0 R g0 B3 lp C1 C2 p W)(A:p<=q):C8 F b b0 R g0 B3 lp C1 C2 q W:=by
 obtain⟨g,e,hP,hp⟩:=h.ex;exact⟨ah,h.un,h.no,h.c1,h.c2⟩
def C8.Sk{D1 D2:Int->Int->Prop}(h:C8 F b b0 R g0 B3 lp C1 C2 p W)(I:∀j r:Int,0<=j/\j<F->D1 j r->S8 (W.nf j) W.O r)(Q:∀j r:Int,0<=j/\j<F->D2 j r->VL (W.nf j) W.O r):C8 F b b0 R g0 B3 lp D1 D2 p W:=⟨h.ex,h.un,h.no,I,Q⟩
theorem C8.hand(h:C8 F b b0 R g0 B3 lp C1 C2 (q+if m.to=m.Ν then 0 else 1) W)(hp:W.O.Perm (m::cR)):C8 F b b0 R g0 B3 lp C1 C2 q (W.put m.to (aX m.to m.Ν m.ct W.B (W.nd m.to).1 (W.nd m.to).2) cR):=by
 obtain⟨g,e,hP,hq⟩:=h.ex;obtain⟨fJ,e',J,a2⟩:=hP.hand hp;have T:=hP.len;have hi:=(hP.room (hp.mem_iff.2 au)).1;refine⟨ah,λj hj r x M=>?_,λr hF=>⟨(h.no r hF).1,λj hj x M=>?_⟩,λj r hj hc=>Jg hP hp hj (h.c1 j r hj hc),λj r hj hc=>Jf hP hp hj (h.c2 j r hj hc)⟩
 .rw[jM D] at M;by_cases z:j=m.to
  .rw[z,eA] at M;obtain⟨x',A,e,_⟩:=vB _ _ M;rw[e];rw[<-hP.nf hi] at A;exact h.un _ hi r x' A
  .rw[fH _ z] at M;exact h.un j hj r x M
 .rw[jM D] at M;obtain⟨n1,n2⟩:=h.no r hF;by_cases z:j=m.to
  .rw[z,eA] at M;obtain⟨x',A,_,e⟩:=vB _ _ M;rw[<-hP.nf hi] at A;have:=h.un _ hi r x' A
   grind
  grind [fH]
theorem C8.a8(hi:0<=i/\i<F):SH (C8 F b b0 R g0 B3 lp C1 C2 p) i :=
 ⟨λW h=>by have:=h.MY;omega,λW W' h hn ht _ hm=>h.perm hn ht hm,by grind [C8.hand]⟩
theorem C8.wk(h:C8 F b b0 R g0 B3 lp C1 C2 (q+1) W)(hp:W.O.Perm (m::cR))(A:m.to≠m.Ν):C8 F b b0 R g0 B3 lp C1 C2 q (W.put m.to (dM m.to F m W.B (W.nd m.to).1 (W.nd m.to).2) cR):=by
 obtain⟨g,e,hP,hq⟩:=h.ex;have T:=hP.len;obtain⟨hi,hT,_⟩:=hP.room (hp.mem_iff.2 au);have hk:=hT.kd;have I:=C8.hand (q:=q) (by rw[Ο A];exact h) hp;unfold dM;rw[Ω ⟨rfl,hT.Ν,Ne.symm A⟩];have ho:=nV (i:=m.to) (Ν:=m.Ν) (m:=m.ct) (B:=W.B) (N:=(W.nd m.to).1) (S:=(W.nd m.to).2);generalize aX m.to m.Ν m.ct W.B (W.nd m.to).1 (W.nd m.to).2=Δ at I ho ⊢;have Q:=sW (C8.a8 hi) I (l:=Δ.1) (cR:=cR) fC ah;rw[jL D,oJ] at Q;exact Q
theorem Ms{g fJ : Gh}(h:fJ.Β=g.Β)(F i r:Int):QI fJ F i r=QI g F i r:=by unfold QI cV;rw[h]
theorem Mr{g fJ : Gh}(h:fJ.Β=g.Β)(i r:Int):Qu fJ i r=Qu g i r:=by unfold Qu cV;rw[h]
theorem Lq{B:Int}{g:Gh}{N:ω}{S:Τ}(hg:Ng g)(h:M1 g i N S){x:K4}(M:ε N.Ψ r=some x):I3 g i ((cD i r x B).1,{ N with Ψ:=ez N.Ψ r (cD i r x B).2 },S):=by
 have hG:=h.bg r x M
 have e1:(cD i r x B).2.Α=x.Α:=by
  unfold cD;split
  .rfl
  split
  .rfl
  .rfl
 refine I3.same hg (h.J2 (c:=N.ν) ah) ?_;unfold cD;split
 .exact ip (λq=>iJ (show(3:Int)=1 from q) ac) (by show ¬(3:Int)=5;decide)
 split
 .exact ip (λq=>iJ (show(3:Int)=1 from q) ac) (by show ¬(3:Int)=5;decide)
 .exact ip (λ_=>hG) ah
theorem HN{x:K4}{B:Int}:(cD i r x B).2.C7=x.C7:=by
 unfold cD;split
 .rfl
 split
 .rfl
 .rfl
theorem JQ{x:K4}{B:Int}(h:x.F4=false):(cD i r x B).2.F4=false:=by
 unfold cD;split
 .exact h
 split
 .rfl
 .exact h
theorem xL{x:K4}{B:Int}:∀y∈(cD i r x B).1,y.Ν=i/\0<=y.ct.Ζ:=λy U=>by
 unfold cD at U;split at U
 .obtain⟨k,_,_,rfl⟩:=iv U;exact⟨rfl,by show(0:Int)<=3;decide⟩
 split at U
 .obtain⟨k,_,_,rfl⟩:=iv U;exact⟨rfl,by show(0:Int)<=3;decide⟩
 grind [iv]
theorem HO{x:K4}{B:Int}{O:List fK}(T:x.C7<B):(cD i r x B).2.dec=true/\∀k∈(cD i r x B).2.lq,k∈(cD i r x B).2.told\/UC (O++(cD i r x B).1) r k:=by
 have mem:∀{gs W:List Int} {ct:G4} {k:Int},k∈gs->k∉W->(⟨i,k,ct⟩:fK)∈ck i gs W ct:=by grind [ck]
 unfold cD;rw[Ω T];split
 .rename_i hd;refine⟨hd,λk hk=>?_⟩;by_cases z:k∈x.told
  .exact .inl z
  .exact .inr ⟨_,cj _ (mem hk z),rfl,.inl ⟨rfl,rfl⟩⟩
 exact⟨rfl,λk hk=>.inr ⟨_,cj _ (mem hk ah),rfl,.inl ⟨rfl,rfl⟩⟩⟩
def S8.later{N N' : ω}{O J : List fK}(h:S8 N O r)(a2:O9 N N')(hb:∀x',ε N'.Ψ r=some x'->∃x,ε N.Ψ r=some x)(hm:∀y∈O,y∈J):S8 N' J r:=λx' A=>by
 obtain⟨x,M⟩:=hb x' A;obtain⟨x2,r1,_,r3,r4,r5⟩:=a2.bg r x M;rw[A] at r1;obtain rfl:=O3 r1;obtain⟨q1,q2⟩:=h x M;refine⟨(r4 q1).1,λk hk=>?_⟩;rw[r3] at hk;exact(q2 k hk).imp (r5 k) λz=>z.mono hm
theorem C8.ZJ(h:C8 F b b0 R g0 B3 lp C1 C2 p W)(hi:0<=i/\i<F){x:K4}(M:ε (W.nd i).1.Ψ r=some x){late:Prop}(a5:late->B3<W.B):C8 F b b0 R g0 B3 lp (λj k=>C1 j k\/(late/\j=i/\k=r)) C2 (p+QI g0 F i r) (W.put i ((cD i r x W.B).1,{ (W.nd i).1 with Ψ:=ez (W.nd i).1.Ψ r (cD i r x W.B).2 },(W.nd i).2) W.O):=by
 obtain⟨g,e,hP,hq⟩:=h.ex;have T:=hP.len;have hK:=hP.nd i hi;have hN:=hP.cv.cv.nd i hi;have en:=hP.nf hi;have hB:∀r x,ε (W.nf i).Ψ r=some x->g.Β r=some x.Α:=by rw[en];exact hN.bg
 have a4:ε (W.nf i).Ψ r=some x:=by rw[en];exact M
 have J:=JS (B:=W.B) hP.ag hB hi a4;have a7:=JR (R:=R) (B:=W.B) hP.ag hB hP.cv.hR hi a4;rw[en] at J a7;obtain⟨fJ,e',a6⟩:=hP.put hi (cR:=W.O) ah (Lq (B:=W.B) hP.cv.cv.gh hN M) (MO.J2 (c:=(W.nd i).1.ν) hK.np) J (hK.hd.bg (ν:=(W.nd i).1.ν)) hK.T hK.tt (λa x ha=>hK.S7 a x ha);have a2:=jM (W:=W) (i:=i) (Δ:=((cD i r x W.B).1,{ (W.nd i).1 with Ψ:=ez (W.nd i).1.Ψ r (cD i r x W.B).2 },(W.nd i).2)) (cR:=W.O) D;have a9:O9 (W.nd i).1 { (W.nd i).1 with Ψ:=ez (W.nd i).1.Ψ r (cD i r x W.B).2 }:=by rw[<-en] at J ⊢;exact J.le
 have A:∀k x',ε (ez (W.nd i).1.Ψ r (cD i r x W.B).2) k=some x'->∃y,ε (W.nd i).1.Ψ k=some y/\x'.C7=y.C7/\(y.F4=false->x'.F4=false):=by grind [cF,HN,JQ]
 refine⟨⟨fJ,e'.trans e,a6,?_⟩,λj hj k y U=>?_,λk hF=>⟨(h.no k hF).1,λj hj y U=>?_⟩,λj k hj hc=>?_,λj k hj hc=>?_⟩
 .have q1:=vp (Ξ:=0) (u:=QI g F i r) (w:=0) (cR:=W.O) (Δ:=((cD i r x W.B).1,{ (W.nd i).1 with Ψ:=ez (W.nd i).1.Ψ r (cD i r x W.B).2 },(W.nd i).2)) (g:=g) (R:=R) hP.len hi rfl ah;grind [xt,Ms]
 .rw[a2] at U;by_cases z:j=i
  .rw[z,eA] at U;obtain⟨y',r1,r2,_⟩:=A k y U;rw[r2];exact h.un i hi k y' ah
  .rw[fH _ z] at U;exact h.un j hj k y U
 .rw[a2] at U;by_cases z:j=i
  .rw[z,eA] at U;obtain⟨y',r1,_,r2⟩:=A k y U;exact r2 ((h.no k hF).2 i hi y' ah)
  .rw[fH _ z] at U;exact(h.no k hF).2 j hj y U
 .rw[a2]
  have keep:C1 j k->S8 (O2 W.nf i { (W.nd i).1 with Ψ:=ez (W.nd i).1.Ψ r (cD i r x W.B).2 } j) (W.O++(cD i r x W.B).1) k:=λhc=>by
   by_cases z:j=i
   .rw[z,eA];rw[z] at hc;have q1:=h.c1 i k hi hc;rw[en] at q1;exact q1.later a9 ah ah
   .rw[fH _ z];exact(h.c1 j k hj hc).later (O9.refl _) ah ah
  rcases hc with hc|⟨hL,rfl,rfl⟩
  .exact keep hc
  .rw[eA];intro x' a3;have a3 : ε (ez (W.nd j).1.Ψ k (cD j k x W.B).2) k=some x':=a3;rw[cF,Ω rfl] at a3;rw[<-O3 a3];have hu:=h.un j hj k x a4;exact HO ah
 .rw[a2];have q1:=h.c2 j k hj hc;by_cases z:j=i
  .rw[z,eA];rw[z,en] at q1;exact λp hp o ho hs=>(q1 p hp o ho hs).mono λy U=>cx _ U
  .rw[fH _ z];exact λp hp o ho hs=>(q1 p hp o ho hs).mono λy U=>cx _ U
def C8.weak{D1 D2:Int->Int->Prop}(h:C8 F b b0 R g0 B3 lp C1 C2 p W)(I:∀j k,D1 j k->C1 j k)(Q:∀j k,D2 j k->C2 j k):C8 F b b0 R g0 B3 lp D1 D2 p W:=h.Sk (λj k hj hc=>h.c1 j k hj (I j k hc)) λj k hj hc=>h.c2 j k hj (Q j k hc)
theorem Lb(h:C8 F b b0 R g0 B3 lp C1 C2 p W)(hi:0<=i/\i<F){late:Prop}(A:late->B3<W.B):C8 F b b0 R g0 B3 lp (λj k=>C1 j k\/(late/\j=i/\k=r)) C2 (p+QI g0 F i r) (W.put i (MX i W.B r (W.nd i).1 (W.nd i).2) W.O):=by
 obtain⟨g,e,hP,hq⟩:=h.ex;have T:=hP.len;unfold MX;cases M:ε (W.nd i).1.Ψ r with
 | none =>
  have I:C8 F b b0 R g0 B3 lp (λj k=>C1 j k\/(late/\j=i/\k=r)) C2 p W:=h.Sk (λj k hj hc=>by
   rcases hc with hc|⟨_,rfl,rfl⟩
   .exact h.c1 j k hj hc
   .intro x J;rw[hP.nf hj,M] at J;cases J) h.c2
  exact SH.same (l:=[]) (C8.a8 hi) (I.mono D) ah
 | some x =>
  dsimp only;have I:=h.ZJ hi M A;have hf:=xL (i:=i) (r:=r) (x:=x) (B:=W.B);have Q:=sW (C8.a8 hi) I (l:=(cD i r x W.B).1) (cR:=W.O) fC hf;rw[jL D,oJ] at Q;exact Q
theorem Lf{c:B4}{B:Int}{N:ω}{S:Τ}(h:NH i c B N S):(K7 i B r N S).2.2=S/\NH i c B (K7 i B r N S).2.1 (K7 i B r N S).2.2/\(K7 i B r N S).2.1.T=N.T:=by
 unfold K7;cases hp:ε N.Γ r with
 | none=>grind
 | some p =>
  dsimp only;split
  .rename_i A;rw[Hy p.Α S (h.fin r p hp A)];exact⟨rfl,h.K5 hp rfl (λq=>q) (λo ho=>(h.pt r p hp ah).2.1 o ho) h.ld ah (λ_=>rfl) λq=>h.fin r p hp q,rfl⟩
  grind
theorem Mj{B:Int}{g:Gh}{N:ω}{S:Τ}(q2:Ng g)(q3:M1 g i N S):I3 g i (K7 i B r N S):=by
 unfold K7;cases hp:ε N.Γ r with
 | none=>exact I3.same q2 q3 ah
 | some p =>
  dsimp only;split
  .have q:=DA q2 q3 hp (f:=B9 i r p.state p.Κ B) (λg S o=>Da) p.state (O:=[]) ah;grind
  grind [I3.same]
theorem Jn{B:Int}{g:Gh}{N:ω}{S:Τ}(h:(N.Γ.map (·.1)).Nodup):MO g R i N S (K7 i B r N S):=by
 unfold K7;cases hp:ε N.Γ r with
 | none=>exact MO.same h
 | some p =>
  dsimp only;split
  .refine MO.K5 h hp (rx (λo S=>?_) p.Α _);unfold B9;split
   .grind
   .exact mW
  .exact MO.same h
theorem Fo{B:Int}{N:ω}{S:Τ}:(K7 i B r N S).2.1.Ψ=N.Ψ:=by
 grind [K7]
theorem Ld(h:C8 F b b0 R g0 B3 lp C1 C2 p W)(hi:0<=i/\i<F):C8 F b b0 R g0 B3 lp C1 (λj k=>C2 j k\/(j=i/\k=r)) (p+Qu g0 i r) (W.put i (K7 i W.B r (W.nd i).1 (W.nd i).2) W.O):=by
 obtain⟨g,e,hP,hq⟩:=h.ex;have T:=hP.len;have hK:=hP.nd i hi;have hN:=hP.cv.cv.nd i hi;have en:=hP.nf hi;have hr:=hP.MY;have b6:=hP.cv.pn i hi;have b5:=um g R i (W.nd i).1 (W.nd i).2;have hb:=hP.hb;have a3:=Lh (r:=r) (B:=W.B) (S:=(W.nd i).2) hP.ag hP.gr hi;have b3:=Le (r:=r) (R:=R) (B:=W.B) (S:=(W.nd i).2) hP.ag hP.cv.hR hi;have a2:=Jo (r:=r) (B:=W.B) (nd:=W.nf) (S:=(W.nd i).2) (b0:=b0 i) (c:=I4) (g:=g) (F:=F) (i:=i) (by rw[en];exact hK.S7) hi D (by rw[en];exact hK.np) (by rw[en];exact hK.hd) (by rw[en];omega);rw[en] at a3 b3 a2;obtain⟨d1,d2,d3⟩:=Lf (r:=r) hK.hd;obtain⟨fJ,e',b2⟩:=hP.put hi (cR:=W.O) ah (Mj (r:=r) (B:=W.B) hP.cv.cv.gh hN) (Jn hK.np) a3 d2 (by rw[d1,d3];exact hK.T) (by rw[d1];exact hK.tt) a2;have a4:=jM (W:=W) (i:=i) (Δ:=K7 i W.B r (W.nd i).1 (W.nd i).2) (cR:=W.O) D;have a9:=Fo (i:=i) (r:=r) (B:=W.B) (N:=(W.nd i).1) (S:=(W.nd i).2);refine⟨⟨fJ,e'.trans e,b2,?_⟩,λj hj k y U=>?_,λk hF=>⟨(h.no k hF).1,λj hj y U=>?_⟩,λj k hj hc=>?_,λj k hj hc=>?_⟩
 .have q1:=vp (Ξ:=0) (u:=Qu g i r) (w:=0) (cR:=W.O) (Δ:=K7 i W.B r (W.nd i).1 (W.nd i).2) (g:=g) (R:=R) hP.len hi rfl (by rw[en];omega);grind [xt,Mr]
 .rw[a4] at U;by_cases z:j=i
  .rw[z,eA,a9] at U;exact h.un i hi k y ah
  .rw[fH _ z] at U;exact h.un j hj k y U
 .rw[a4] at U;by_cases z:j=i
  .rw[z,eA,a9] at U;exact(h.no k hF).2 i hi y ah
  .rw[fH _ z] at U;exact(h.no k hF).2 j hj y U
 .rw[a4];have q1:=h.c1 j k hj hc;by_cases z:j=i
  .rw[z,eA];rw[z,en] at q1;rw[<-en] at a3 ⊢;refine S8.later (by rw[en];exact q1) a3.le (λx' a7=>?_) λy U=>cx _ U;rw[en,a9] at a7;rw[en];exact⟨x',a7⟩
  .rw[fH _ z];exact q1.later (O9.refl _) (λx' a7=>⟨x',a7⟩) λy U=>cx _ U
 .rw[a4];by_cases z:j=i
  .rw[z,eA];rw[z] at hc;intro p' A o' a5 b1
   have J:C2 i k->ε (W.nd i).1.Γ k=some p'->UD (W.O++(K7 i W.B r (W.nd i).1 (W.nd i).2).1) k o'.ai:=λhc hp=>by
    have q1:=h.c2 i k hi hc;rw[en] at q1;exact(q1 p' hp o' a5 b1).mono ah
   have b4:=A;unfold K7 at A ⊢;cases hp:ε (W.nd i).1.Γ r with
   | none =>
    rw[hp] at A;have A : ε (W.nd i).1.Γ k=some p':=A;rcases hc with hc|⟨_,rfl⟩
    .unfold K7 at J;rw[hp] at J;exact J hc A
    grind
   | some p =>
    rw[hp] at A;have hT:=hP.ag.pt i hi r p ah;dsimp only at A ⊢;by_cases a6:p.state=1\/p.state=2
    .rw[Ω a6] at A ⊢;have A : ε (ez (W.nd i).1.Γ r ⟨p.state,p.Κ,(B0 (B9 i r p.state p.Κ W.B) p.Α (W.nd i).2).2.1⟩) k=some p':=A;rw[cF] at A;by_cases ek:k=r
     .rw[Ω ek] at A;rw[<-O3 A] at a5;exact⟨_,cj _ (yf p.Α (W.nd i).2 o' a5 b1),ek.symm,rfl,.inl rfl⟩
     .rw[Ο ek] at A;rcases hc with hc|⟨_,q⟩
      .unfold K7 at J;rw[hp] at J;dsimp only at J;rw[Ω a6] at J;exact J hc A
      omega
    .rw[Ο a6] at A ⊢;have A : ε (W.nd i).1.Γ k=some p':=A;rcases hc with hc|⟨_,rfl⟩
     .unfold K7 at J;rw[hp] at J;dsimp only at J;rw[Ο a6] at J;exact J hc A
     .rw[hp] at A;obtain rfl:=O3 A;have:=((hT.ow o' a5).s1 b1).1
      omega
  .rw[fH _ z];rcases hc with hc|⟨q,_⟩
   .exact λp hp o ho hs=>(h.c2 j k hj hc p hp o ho hs).mono λy U=>cx _ U
   omega
theorem Cp{Δ r2:L6}:(W.put i Δ W.O).put i r2 (W.put i Δ W.O).O=W.put i (Δ.1++r2.1,r2.2) W.O:=by
 grind [jA.put,List.set_set]
def aw(g:Gh)(F i r:Int):Nat:=QI g F i r+Qu g i r
def Lj(h:C8 F b b0 R g0 B3 lp C1 C2 p W)(hi:0<=i/\i<F){late:Prop}(A:late->B3<W.B):C8 F b b0 R g0 B3 lp (λj k=>C1 j k\/(late/\j=i/\k=r)) (λj k=>C2 j k\/(j=i/\k=r)) (p+aw g0 F i r) (W.put i (PV i W.B r (W.nd i).1 (W.nd i).2) W.O):=by
 have T:=h.MY;have I:=Lb (r:=r) h hi A;have Q:=Ld (r:=r) I hi;rw[jL D,Cp] at Q;have e:p+QI g0 F i r+Qu g0 i r=p+aw g0 F i r:=by unfold aw;omega
 rw[e] at Q;exact Q
theorem CZ{late:Prop}(hi:0<=i/\i<F):∀(h1:List Int) (W:jA) (C1 C2:Int->Int->Prop) (p:Nat),C8 F b b0 R g0 B3 lp C1 C2 p W->(late->B3<W.B)->C8 F b b0 R g0 B3 lp (λj k=>C1 j k\/(late/\j=i/\k∈h1)) (λj k=>C2 j k\/(j=i/\k∈h1)) (p+(h1.map (aw g0 F i)).sum) (W.put i (bT (PV i W.B) h1 (W.nd i).1 (W.nd i).2) W.O)
 | [],W,C1,C2,p,h,_=>by
  have q:=SH.same (l:=[]) (cR:=W.O) (C8.a8 hi) h ah;exact q.weak ah ah
 | a::h1,W,C1,C2,p,h,XM=>by
  have T:=h.MY;have I:=Lj (r:=a) h hi XM;have Q:=CZ hi h1 _ _ _ _ I XM;rw[jL D,Cp] at Q;rw[al,aR,<-dc]
  exact Q.weak (λj k z=>by
   rcases z with z|⟨z1,z2,z3⟩
   .exact .inl (.inl z)
   .rcases L7 z3 with z3|z3
    .exact .inl (.inr ⟨z1,z2,z3⟩)
    .exact .inr ⟨z1,z2,z3⟩) λj k z=>by
   rcases z with z|⟨z2,z3⟩
   .exact .inl (.inl z)
   .rcases L7 z3 with z3|z3
    .exact .inl (.inr ⟨z2,z3⟩)
    .exact .inr ⟨z2,z3⟩
theorem Ck{f:Int->Nat}:∀{l R:List Int},l.Nodup->(∀x∈l,x∈R)->(l.map f).sum<=(R.map f).sum
 | [],_,_,_=>aD _
 | a::l,R,hn,hs=>by
  obtain⟨I,Q⟩:=List.nodup_cons.1 hn;have hp:=List.perm_cons_erase (hs a au);have ih:=Ck (f:=f) (l:=l) (R:=R.erase a) Q ah;grind
theorem IG{N:ω}(I:(N.Ψ.map (·.1)).Nodup)(Q:(N.Γ.map (·.1)).Nodup):(dZ N).Nodup:=by
 unfold dZ;refine(ji _).nodup_iff.2 (List.nodup_append.2 ⟨I,Q.filter _,λa ha c hc e=>?_⟩);obtain⟨_,q⟩:=List.mem_filter.1 hc;obtain⟨x,M,rfl⟩:=H8 ha;have q:(ε N.Ψ c).isNone=true:=by simpa using q
 have z:ε N.Ψ x.1=some x.2:=fo I M;grind
def C8.Tw(h:C8 F b b0 R g0 B3 lp C1 C2 p W)(hi:0<=i/\i<F)(a2:((W.nd i).1.Ψ.map (·.1)).Nodup){late:Prop}(J:late->B3<W.B):C8 F b b0 R g0 B3 lp (λj k=>C1 j k\/(late/\j=i)) (λj k=>C2 j k\/j=i) (p+(R.map (aw g0 F i)).sum) (W.put i (cU i W.B (W.nd i).1 (W.nd i).2) W.O):=by
 obtain⟨g,e,hP,hq⟩:=h.ex;have hK:=hP.nd i hi;have hN:=hP.cv.cv.nd i hi;have en:=hP.nf hi
 have I:C8 F b b0 R g0 B3 lp (λj k=>C1 j k\/(late/\j=i/\k∉dZ (W.nd i).1)) (λj k=>C2 j k\/(j=i/\k∉dZ (W.nd i).1)) p W:=h.Sk (λj k hj hc=>by
  rcases hc with hc|⟨_,rfl,hk⟩
  .exact h.c1 j k hj hc
  .intro x M;rw[en] at M;exact iJ (Wp.2 (.inl (List.mem_map.2 ⟨_,bR M,rfl⟩))) hk) λj k hj hc=>by
  rcases hc with hc|⟨rfl,hk⟩
  .exact h.c2 j k hj hc
  .intro x M;rw[en] at M;exact iJ (Wp.2 (.inr (List.mem_map.2 ⟨_,bR M,rfl⟩))) hk
 have Q:=CZ hi (dZ (W.nd i).1) W _ _ _ I J
 have hs:=Ck (f:=aw g0 F i) (l:=dZ (W.nd i).1) (R:=R) (IG a2 hK.np) λr A=>by
  rcases Wp.1 A with A|A
  .obtain⟨x,M,rfl⟩:=H8 A;exact hP.cv.hR _ _ (hN.bg _ _ (fo a2 (k:=x.1) (a:=x.2) M))
  .obtain⟨x,M,rfl⟩:=H8 A;obtain⟨ls,Δ,_⟩:=(hP.ag.pt i hi x.1 x.2 (by rw[en];exact fo hK.np (k:=x.1) (a:=x.2) M)).G5;exact hP.cv.hR _ _ Δ
 refine(Q.mono (Nat.add_le_add_left hs p)).weak (λj k z=>?_) λj k z=>?_
 .rcases z with z|⟨z1,z2⟩
  .exact .inl (.inl z)
  .by_cases hk:k∈dZ (W.nd i).1
   .exact .inr ⟨z1,z2,hk⟩
   .exact .inl (.inr ⟨z1,z2,hk⟩)
 .rcases z with z|z2
  .exact .inl (.inl z)
  .by_cases hk:k∈dZ (W.nd i).1
   .exact .inr ⟨z2,hk⟩
   .exact .inl (.inr ⟨z2,hk⟩)
end
end
section
open Go.V
def Cv(i:Int):∀(ls:List x4) (k:Int),(B6 i k ls).length+(ls.filter λl=>decide (l.d≠i)).length=ls.length
 | [],_=>rfl
 | l::ls,k=>by
  have ih:=Cv i ls (k+1);have e1:B6 i k (l::ls)=if l.d=i then⟨l,k,0,[]⟩::B6 i (k+1) ls else B6 i (k+1) ls:=rfl;rw[e1];by_cases h:l.d=i
  .rw[Ω h,List.filter_cons_of_neg (by simpa using h),aL,aL];omega
  .rw[Ο h,dD (by simpa using h),aL,aL];omega
theorem vr{i:Int}{ls:List x4}{n:Nat}:Om i (bL ls n)+(B6 i 0 ls).length<=ls.length:=by
 have I:=Cv i ls 0
 have Q:Om i (bL ls n)<=((ls.filter λl=>decide (l.d≠i)).map (·.d)).length:=by
  unfold Om;refine jn ((iP ls n).filter _) λk hk=>?_;obtain⟨q1,q2⟩:=List.mem_filter.1 hk;obtain⟨_,l,T,rfl⟩:=UW.1 q1;exact ah
 grind
theorem Ew{i F:Int}{ls:List x4}(hi:0<=i/\i<F)(h3:F<=3):Om i (bL ls F.toNat)<=2:=by
 have h:=jn (l:=i::((bL ls F.toNat).filter λk=>decide (k≠i))) (m:=(List.range F.toNat).map λ (k:Nat)=>(k:Int)) (by grind [iP]) λk hk=>by
  have hr:0<=k/\k<F:=by
   rcases L7 hk with rfl|hk
   .exact hi
   .exact mc D (List.mem_filter.1 hk).1
  exact List.mem_map.2 ⟨k.toNat,List.mem_range.2 D,D⟩
 grind [Om]
theorem jU{n:Nat}{f:Nat->Nat}(h:∀j,j<n->f j=0):((List.range n).map f).sum=0:=by
 induction n with
 | zero=>rfl
 | succ n ih =>
  grind [df]
theorem kI{n:Nat}{f f' : Nat->Nat}:((List.range n).map λj=>f j+f' j).sum=((List.range n).map f).sum+((List.range n).map f').sum:=by
 induction n with
 | zero=>rfl
 | succ n ih =>
  grind [df]
theorem qB{n c:Nat}{f:Nat->Nat}:((List.range n).map λj=>c*f j).sum=c*((List.range n).map f).sum:=by
 induction n with
 | zero=>rfl
 | succ n ih =>
  grind [df]
theorem sO{n:Nat}{f f' : Nat->Nat}(h:∀j,j<n->f' j<=f j):((List.range n).map f').sum<=((List.range n).map f).sum:=kE ah
theorem nI{n:Nat}{i:Int}{c:Nat}:((List.range n).map λj:Nat=>if i=(j:Int) then c else 0).sum<=c:=by
 induction n with
 | zero=>grind
 | succ n ih =>
  grind [df,jU]
theorem rC{F:Int}:∀(ls:List x4) (k:Int),(∀l∈ls,0<=l.d/\l.d<F)->((List.range F.toNat).map λj:Nat=>(B6 (j:Int) k ls).length).sum<=ls.length
 | [],k,_=>by
  grind [jU,B6]
 | l::ls,k,h=>by
  have ih:=rC ls (k+1) λx M=>h x (az _ M);have e:∀j:Nat,(B6 (j:Int) k (l::ls)).length=(if l.d=(j:Int) then 1 else 0)+(B6 (j:Int) (k+1) ls).length:=by grind [B6]
  have q:=nI (n:=F.toNat) (i:=l.d) (c:=1);have e2:((List.range F.toNat).map λj:Nat=>(B6 (j:Int) k (l::ls)).length)=(List.range F.toNat).map λj:Nat=>(if l.d=(j:Int) then 1 else 0)+(B6 (j:Int) (k+1) ls).length:=aU λj _=>e j;rw[e2,kI,aL];omega
theorem ZK{g:Gh}{F i r:Int}(hR:PX F g):aw g F i r<=8:=by
 unfold aw QI Qu cV;cases hG:g.Β r with
 | none =>
  have e:(bL ((none:Option (List x4)).getD []) F.toNat)=bL [] F.toNat:=rfl;have h:=vr (i:=i) (ls:=[]) (n:=F.toNat);grind
 | some ls =>
  have h:=vr (i:=i) (ls:=ls) (n:=F.toNat);have h4:=(hR r ls hG).1;grind
def MH{g:Gh}{F r:Int}(hR:PX F g)(h3:F<=3)(hc:∀ls,g.Β r=some ls->0<=bX r/\bX r<F):((List.range F.toNat).map λj:Nat=>aw g F (j:Int) r).sum<=12:=by
 unfold aw;rw[kI];cases hG:g.Β r with
 | none =>
  have e1:((List.range F.toNat).map λj:Nat=>QI g F (j:Int) r).sum=0:=jU λj _=>by
   unfold QI cV;rw[hG];have h:=vr (i:=(j:Int)) (ls:=[]) (n:=F.toNat);show(if bX r=(j:Int) then 2*Om j (bL [] F.toNat) else 0)=0;have:([]:List x4).length=0:=rfl
   split<;>omega
  have e2:((List.range F.toNat).map λj:Nat=>Qu g (j:Int) r).sum=0:=jU λj _=>by
   unfold Qu cV;rw[hG];rfl
  omega
 | some ls =>
  have T:cV g r=ls:=by unfold cV;rw[hG];rfl
  obtain⟨h4,J⟩:=hR r ls hG
  have e1:((List.range F.toNat).map λj:Nat=>QI g F (j:Int) r).sum<=4:=by
   refine aO (sO (f:=λj:Nat=>if bX r=(j:Int) then 4 else 0) λj hj=>?_) nI;unfold QI;rw[T];have:=Ew (i:=(j:Int)) (ls:=ls) (D:0<=(j:Int)/\(j:Int)<F) h3
   split<;>omega
  have e2:((List.range F.toNat).map λj:Nat=>Qu g (j:Int) r).sum<=8:=by
   have e3:((List.range F.toNat).map λj:Nat=>Qu g (j:Int) r)=(List.range F.toNat).map λj:Nat=>2*(B6 (j:Int) 0 ls).length:=aU λj _=>by unfold Qu;rw[T]
   rw[e3,qB];have:=rC (F:=F) ls 0 λl A=>(J l A).d
   omega
  omega
section
variable {F:Int}{b:Nat}{b0:Int->Int->Int->Int}{R:List Int}{g g0:Gh}{B3:Int}{p:Nat}{W:jA}{i r u:Int}{ls:List x4}
def IX{N:ω}{S:Τ}(hN:M1 g i N S)(A:g.Β r=none){a x:Int}:Pc (g.G5 r ls) i N a x=Pc g i N a x:=by
 unfold Pc;congr 2;refine aU λk hk=>?_;obtain⟨l,fl,q,_,_⟩:=hN.ls.rc k hk;unfold dR;rw[q,kH A q]
def ON(N:ω)(F r u:Int)(ls:List x4):ω:={ N with ν:=N.ν+1,Ψ:=ez N.Ψ r ⟨ls,bL ls F.toNat,u,[],[],false,false⟩ }
def iA(F i r:Int)(ls:List x4):List fK:=ck i (bL ls F.toNat) [] ⟨1,r,0,false,ls,[]⟩
theorem KW{N:ω}(h:ε N.Ψ r=none):O9 N (ON N F r u ls):=O9.J2 ah
theorem OF.Ψ(h:OF F b b0 g R W)(hi:0<=i/\i<F)(J:g.Β r=none)(b4:bX r=i)(a3:ls.length<=4/\∀l∈ls,Rh F l)(b8:ls≠[])(hb:b+48<=1900):∃fJ,fJ.Β=(g.G5 r ls).Β/\OF F (b+48) b0 fJ (r::R) (W.put i (iA F i r ls,ON (W.nd i).1 F r u ls,(W.nd i).2) W.O):=by
 have T:=h.len;have hC:=h.cv.cv;have hK:=h.nd i hi;have a4:(g.G5 r ls).Β r=some ls:=Ω rfl
 have ha:Nu ls<=12:=by
  have q:∀l:List x4,(∀x∈l,x.am.length<=3)->Nu l<=3*l.length:=λl=>by
   induction l with
   | nil=>exact λ_=>aD _
   | cons x l ih =>
    grind [Nu]
  have:=q ls λx M=>(a3.2 x M).len
  have:=a3.1
  omega
 have a6:Oy F (b+48) (g.G5 r ls) (r::R) W:=by
  refine⟨hC.G5 ls J,λj b7 q=>?_,λx M=>?_,λj hj=>?_⟩
  .have e:(g.G5 r ls).Β j=if j=r then some ls else g.Β j:=rfl;rw[e] at q;by_cases z:j=r
   .grind
   .rw[Ο z] at q;exact az _ (h.cv.hR j b7 q)
  .rcases L7 M with rfl|M
   .grind
   .obtain⟨l,q⟩:=h.cv.QX x M;exact⟨l,ry J q⟩
  .have q1:=LC (ls:=ls) h.cv.QX J j (W.nd j).1 (W.nd j).2;have q2:=h.cv.pn j hj;omega
 have b3:M1 (g.G5 r ls) i (ON (W.nd i).1 F r u ls) (W.nd i).2:=(a6.cv.nd i hi).J2 (by exact a4);obtain⟨fJ,e',hS⟩:=a6.send T hi (Δ:=(iA F i r ls,ON (W.nd i).1 F r u ls,(W.nd i).2)) (I3.same a6.cv.gh b3 (ip (λ_=>a4) ah)) (MO.J2 hK.np);have b1:0<=i/\i<W.D8.length:=D
 have a2:ε (W.nf i).Ψ r=none:=by
  cases q:ε (W.nf i).Ψ r with
  | none=>rfl
  | some x =>
   rw[h.nf hi] at q;have:=(hC.nd i hi).bg r x q
   grind
 have b6:O9 (W.nf i) (ON (W.nd i).1 F r u ls):=by rw[<-h.nf hi];exact KW a2
 have A:=kD b6;have a5:RD g fJ:=⟨λj l q=>by rw[e'];exact(RD.G5 J).Β j l q,λk l q=>(lf e' k).trans ((RD.G5 J).Χ k l q)⟩;have b2:fJ.Β r=some ls:=by rw[e'];exact a4
 have b5:ε (ON (W.nd i).1 F r u ls).Ψ r=some ⟨ls,bL ls F.toNat,u,[],[],false,false⟩:=by
  show ε (ez (W.nd i).1.Ψ r _) r=_;rw[cF,Ω rfl]
 have a7:(([]:List Int)).length<(bL ls F.toNat).length:=by
  cases ls with
  | nil=>grind
  | cons l ls =>
   have hs:=(a3.2 l ah).d;exact List.length_pos_of_mem (UW.2 ⟨by show 0<=l.d/\l.d<(F.toNat:Int);omega,l,au,rfl⟩)
 refine⟨fJ,e',h.MY,by rw[vm];exact T,h.B,hb,hS,λj l q=>h.gr.G5 a3 j l (by rw[<-e'];exact q),?_,λj hj=>?_⟩
 .rw[jM b1];refine⟨λj l q=>?_,λj hj k x q=>?_,λj hj k x q=>?_,λj hj k q=>?_,λy U=>?_⟩
  .rw[e'] at q;have e:(g.G5 r ls).Β j=if j=r then some ls else g.Β j:=rfl;rw[e] at q;by_cases z:j=r
   .grind [eA]
   .rw[Ο z] at q;obtain⟨q1,x,q2,q3⟩:=h.ag.rg j l q;obtain⟨x',r1,r2,_⟩:=(A _).bg j x q2;grind
  .by_cases z:j=i
   .rw[z,eA] at q;have q:ε (ez (W.nd i).1.Ψ r ⟨ls,bL ls F.toNat,u,[],[],false,false⟩) k=some x:=q;rw[cF] at q;by_cases z2:k=r
    .rw[Ω z2] at q;rw[<-O3 q,z,z2];exact⟨b4,rfl,dp,ah,ah,ah,λ_=>a7,λ_=>rfl⟩
    .rw[Ο z2,<-h.nf hi] at q;rw[z];exact⟨(h.ag.bg i hi k x q).1,(h.ag.bg i hi k x q).2.mono A⟩
   .rw[fH _ z] at q;exact⟨(h.ag.bg j hj k x q).1,(h.ag.bg j hj k x q).2.mono A⟩
  .have q2:ε (W.nf j).Γ k=some x:=by
    by_cases z:j=i
    .rw[z,eA] at q;rw[z,h.nf hi];exact q
    .rw[fH _ z] at q;exact q
   exact(h.ag.pt j hj k x q2).mono a5 A
  .have q2:k∈(W.nf j).wk:=by
    by_cases z:j=i
    .rw[z,eA] at q;rw[z,h.nf hi];exact q
    .rw[fH _ z] at q;exact q
   exact(h.ag.rv j hj k q2).mono a5 A
  .rcases J4 U with U|U
   .exact(h.ag.O y U).mono a5 A
   .obtain⟨k,hk,_,rfl⟩:=iv U;exact⟨hi,mc D hk,ah,ah,ah,ah,ah,ah,ah⟩
 .rw[ul b1 D]
  have a9:∀j:Int,0<=j/\j<F->SG (b0 j) fJ j (W.nd j).1 (W.nd j).2:=λj hj a x ha=>by
   rw[zI e',IX (hC.nd j hj) J];exact(h.nd j hj).S7 a x ha
  by_cases z:j=i
  .rw[Ω z,z];exact⟨hK.np,hK.hd.bg,hK.T,hK.tt,λa x ha=>a9 i hi a x ha⟩
  .rw[Ο z];have k:=h.nd j hj;exact⟨k.np,k.hd,k.T,k.tt,a9 j hj⟩
def FV(h:OF F b b0 g R W)(hi:0<=i/\i<F)(J:g.Β r=none)(a6:bX r=i)(a4:ls.length<=4/\∀l∈ls,Rh F l):Pp (g.G5 r ls) (r::R) F (W.put i (iA F i r ls,ON (W.nd i).1 F r u ls,(W.nd i).2) W.O)<=Pp g R F W+16:=by
 have T:=h.len;have hr:=h.MY;have a7:0<=i/\i<W.D8.length:=D;have b3:(W.put i (iA F i r ls,ON (W.nd i).1 F r u ls,(W.nd i).2) W.O).nf=O2 W.nf i (ON (W.nd i).1 F r u ls):=jM a7;have ho:=Ew (ls:=ls) hi hr.2
 have I:wS (W.put i (iA F i r ls,ON (W.nd i).1 F r u ls,(W.nd i).2) W.O).O<=wS W.O+4:=by
  show wS (W.O++iA F i r ls)<=_;rw[tU];have q:wS (iA F i r ls)<=2*Om i (bL ls F.toNat):=oY _;omega
 have a2:cV (g.G5 r ls) r=ls:=by
  unfold cV;rw[show(g.G5 r ls).Β r=some ls from Ω rfl];rfl
 have Q:∀j:Nat,j<F.toNat->NP (g.G5 r ls) (r::R) (j:Int) (O2 W.nf i (ON (W.nd i).1 F r u ls) j)<=((if i=(j:Int) then 4 else 0)+2*(B6 (j:Int) 0 ls).length)+NP g R (j:Int) (W.nf j):=λj hj=>by
  have a3:0<=(j:Int)/\(j:Int)<F:=D;have e:NP (g.G5 r ls) (r::R) (j:Int) (O2 W.nf i (ON (W.nd i).1 F r u ls) j)=NO (g.G5 r ls) (j:Int) (O2 W.nf i (ON (W.nd i).1 F r u ls) j) r+(R.map (NO (g.G5 r ls) (j:Int) (O2 W.nf i (ON (W.nd i).1 F r u ls) j))).sum:=by unfold NP;rw[al,aR]
  rw[e]
  have a5:(O2 W.nf i (ON (W.nd i).1 F r u ls) j).Γ=(W.nf j).Γ:=by
   by_cases z:(j:Int)=i
   .rw[z,eA,h.nf hi];rfl
   .rw[fH _ z]
  refine cH ?_ (kE λk hk=>?_)
  .unfold NO;refine cH ?_ ?_
   .unfold RF;by_cases z:(j:Int)=i
    .rw[Ω z.symm,z,eA];show(match ε (ez (W.nd i).1.Ψ r ⟨ls,bL ls F.toNat,u,[],[],false,false⟩) r with|some x=>if x.dec=true then 0 else 2*Om i x.lq|none=>0)<=4;rw[cF,Ω rfl];show(if(false:Bool)=true then 0 else 2*Om i (bL ls F.toNat))<=4;rw[Ο ac];omega
    .rw[Ο λq=>z q.symm,fH _ z];cases q:ε (W.nf j).Ψ r with
     | none=>exact ax _
     | some x=>exact iJ ((h.ag.bg j a3 r x q).1.symm.trans a6) z
   .unfold PN;rw[a5];cases q:ε (W.nf j).Γ r with
    | none =>
     dsimp only;rw[a2];exact ro _ _
    | some x =>
     obtain⟨l,Δ,_⟩:=(h.ag.pt j a3 r x q).G5;rw[J] at Δ;cases Δ
  .obtain⟨lk,A⟩:=h.cv.QX k hk;have b2:k≠r:=λz=>by rw[z,J] at A;cases A
   have a9:cV (g.G5 r ls) k=cV g k:=by
    unfold cV;rw[ry J A,A]
   unfold NO;refine cH ?_ ?_
   .unfold RF;by_cases z:(j:Int)=i
    .rw[z,eA,h.nf hi];show(match ε (ez (W.nd i).1.Ψ r ⟨ls,bL ls F.toNat,u,[],[],false,false⟩) k with|some x=>if x.dec=true then 0 else 2*Om i x.lq|none=>0)<=_;rw[cF,Ο b2];exact ax _
    .rw[fH _ z];exact ax _
   .unfold PN;rw[a5,a9];exact ax _
 have h3:=sO Q;rw[kI,kI,qB] at h3;have h4:=nI (n:=F.toNat) (i:=i) (c:=4);have h5:=rC (F:=F) ls 0 λl b1=>(a4.2 l b1).d;have h6:=a4.1;unfold Pp;rw[b3];omega
