/- Lemmas. -/
import Derived.Test.YtlgpgjdggilkgaaGreatDoorEdau
set_option linter.all false
set_option maxHeartbeats 4000000
namespace Go.Proofs.YtlgpgjdggilkgaaGreatDoor
section
open Go.V
attribute [local irreducible] Β Y GP δ vi GF GE Z Ef C0 E CB GB V.Enters
abbrev AT:=Yu [.ev 10,.ev 11]
abbrev AS:=Yu [.ev 10]
abbrev yy:=Ys [.ev 6,.ef 7]
abbrev yx:=Yw [.ev 17,.ev 18,.ev 19,.ev 20,.ev 21,.ev 22,.ev 23,.ev 24,.ev 25,.ev 26,.ev 27,.ev 28,.ev 29,.ev 30,.ev 31,.ev 32,.ev 33,.ev 34,.ev 35,.ev 36,.ev 37,.ev 38,.ev 39,.ev 40,.ev 41,.ev 42,.ev 43,.ev 44,.ev 45,.ev 46,.ev 47,.ev 48,.ev 49,.ev 50,.ev 51,.ev 52,.ef 53,.ef 54]
abbrev yw:=Ys [.ef 6,.ef 7,.ev 8,.ev 9,.ef 10]
abbrev yv:=Ys [.ev 6,.ef 7,.ef 8,.ev 9,.ev 10,.ef 11]
abbrev yu:=Yv [.ev 13,.ev 14,.ef 15,.ef 16]
def bQ{φ ψ:Prop}(k:ψ)(h:Hid ψ->φ:=by intro k;(with_reducible apply Β.a8);first|refine Β.dr 186 4 AT (Hid.out k)|refine Β.dr 186 6 AS (Hid.out k)|refine Β.dr 186 13 yy (Hid.out k)|refine Β.dr 186 14 yx (Hid.out k)|refine Β.dr 186 17 yw (Hid.out k)|refine Β.dr 186 19 yv (Hid.out k)|refine Β.dr 186 24 yu (Hid.out k)):φ:=h ⟨k⟩
def RA{φ ψ:Prop}(k:ψ)(h:Hid ψ->φ:=by intro k;(repeat (first|refine ab ?_|intro B8|refine bQ ?_));(repeat revert B8);exact Hid.out k):φ:=h ⟨k⟩
def ED{L:Ι}(b bc:Nat)(d:Int)(x:Od)(s:L9)(z:Sw)(m:J5)(W:Wk)(Oq:List E3)(k:Nat)(d4:x.Μ.map O7.m=Oq)(hW:Us x z Oq W)(hA:Ss d Oq k W)(hm:Sb s.Ζ m.m)(hk:k+m.m.Γ.length<=2000)(e9:0<=m.m.a1/\m.m.a1<x.υ.B7.length)(hb:∀p∈m.m.Γ,p.1<=9223372036854775807)(c4:Pe s.Ζ)(f1:¬s.Ζ=5->m.m.Γ=[])(f2:0<=d/\d<12)(Q:x.Μ.length<=4194304)(f6:W.Μ.length<64)(hT:∀mx,TO mx)(e8:x.υ.B7.length<=64) :
  Υ Λ 134 #[ay bc,bC (cq m)] (τ aK 3 m.pad m.m.Γ::G9 b bc s z (E1 b d x L)) (λv Ε=>∃z',v=K (ce d Oq (cX x) s.m W m.m).1 /\
   ((ce d Oq (cX x) s.m W m.m).1=0->Us x z' Oq (ce d Oq (cX x) s.m W m.m).2)/\Ε = G9 b bc s z' (E1 b d x L)):=by
 have d0:=λ (ο:Ι)=>Dn (L:=ο) b bc d x s z m W Oq k d4 hW hA hm hk e9 hb c4 f1 hT e8;obtain⟨g4,g5⟩:=f2;obtain⟨g1,g2⟩:=hm.g.n;have g3:=hm.g.ne;obtain⟨g6,g7⟩:=hA.g.iL m.m.a1;have f4:Oq.length=x.Μ.length:=by rw[<-d4,ak]
 have f5:z.Μ.length=W.Μ.length:=by rw[<-hW.Μ,ak]
 have g0:z.NW.length<=64:=by rw[hW.NW];have:=hA.g.NW;omega
 have e7:=λ (he:NL d (Oq++W.Μ) s.m W m.m=0)=>uJ (hy:=cX x) hA.g hm.g D he;have c3:=GI (d:=d) (nf:=Oq.length) (hy:=cX x) (s:=s.m) (W:=W) hm (Oq++W.Μ);refine Υ.bd ?_;refine RA ?_;intros;rename_i b3;refine Y.cM (Ε:=τ aK 3 m.pad m.m.Γ::G9 b bc s z (E1 b d x (obj b3 OC (cq m)::L))) (by simp only[G9,E1];exact aj) ?_;refine Y.ca (d0 (obj b3 OC (cq m)::L)) ?_;rintro _ _ (⟨I,pd,pn,pc,z',rfl,rfl⟩|⟨I,pad,J3,A,J,a2,rfl,f3,rfl⟩)
 .have e:ce d Oq (cX x) s.m W m.m=(NL d (Oq++W.Μ) s.m W m.m,W):=by unfold ce;rw[Ω I]
  rw[e];generalize NL d (Oq++W.Μ) s.m W m.m=er at *;dsimp only;refine RA ?_;intros;exact KX.a8 aC (by simp only[G9,E1];exact aj) ⟨z',rfl,(λh=>iJ h I),rfl⟩
 obtain⟨b0,a6,a7⟩:=f3;have d6:fc d Oq.length W=d*4294967296+(x.Μ.length:Int)+(z.Μ.length:Int):=by unfold fc;rw[f5,f4]
 have f0:ce d Oq (cX x) s.m W m.m=if dt W m.m>1099511627776 then(4,W)
   else if m.m.to=0 then(0,⟨Np (cX x) W m.m,Pr W.iL m.m.a1 (dt W m.m),W.Μ++[gH d Oq.length (cX x) s.m W m.m],W.NW++[fc d Oq.length W]⟩)
   else if 4096<=(Np (cX x) W m.m m.m.to m.m.a1).length then(4,W)
   else(0,⟨PS (Np (cX x) W m.m) m.m.to m.m.a1 (bF (Np (cX x) W m.m m.m.to m.m.a1) (fc d Oq.length W,0,m.m.n)),Pr W.iL m.m.a1 (dt W m.m),W.Μ++[gH d Oq.length (cX x) s.m W m.m],W.NW⟩):=by unfold ce;rw[Ο (λq=>q I)]
 have b5:gH d Oq.length (cX x) s.m W m.m=⟨fc d Oq.length W,s.r,s.Ζ,s.B,s.Rt,m.m.Ν,m.m.to,m.m.a1,m.m.n,Pw (cX x) s.m W m.m,lc s.m W m.m⟩:=rfl;rw[<-c3.1] at a6;rw[<-c3.2] at a7;clear c3 d0;rw[f0];generalize gH d Oq.length (cX x) s.m W m.m=fl at *;generalize Pw (cX x) s.m W m.m=pts at *;rw[aF] at a6 a7;have e2:dt W m.m=W.iL m.m.a1+(if m.m.Ν=0 then m.m.n else 0) - (if m.m.to=0 then m.m.n else 0):=rfl;have e3:=hW.iL m.m.a1;simp only[G9,E1,cW];refine RA ?_;intros;refine δ.NV (Z.a8 rfl rfl) ac ?_;repeat first|refine Β.sm 5 ?_|refine dz ?_|intro _|refine bQ ?_
 refine Β.c7 (α:=Unit) (λ_=>True) (λ_=>[(0,ay bc),(3,ay b3),(4,K 0),(5,ae pad pts.length J3),(7,K (W.iL m.m.a1))]) (λ_=>τ aK 3 pad pts::G9 b bc s { z with ξ:=A,imp:=J,ret:=a2 } (E1 b d x (obj b3 OC (cq m)::L))) ?_ ?_
 .cases T:@List.lookup _ _ instBEqOfDecidableEq m.m.a1 z.iL with
  | some t =>
   simp only[fq,Option.getD_some,Option.isSome_some];have e:W.iL m.m.a1=t:=by rw[<-e3];unfold ε;rw[T];rfl
   rw[e];refine RA ?_;intros;exact⟨(),trivial,aG,E.refl _⟩
  | none =>
   simp only[io,Option.getD_none,Option.isSome_none];have e:W.iL m.m.a1=(ε x.iL m.m.a1).getD 0:=by rw[<-e3];unfold ε;rw[T];rfl
   rw[e];refine RA ?_;intros;refine δ.NV (Z.j6 rfl rfl) ac ?_;rw[Mt];refine RA ?_;intros;exact⟨(),trivial,aG,E.refl _⟩
 rintro _ _;simp only[G9,E1,cW];refine Β.c7 (α:=Unit) (λ_=>True) (λ_=>[(0,ay bc),(3,ay b3),(4,K 0),(5,ae pad pts.length J3),(7,K (W.iL m.m.a1+(if m.m.Ν=0 then m.m.n else 0)))]) (λ_=>τ aK 3 pad pts::G9 b bc s { z with ξ:=A,imp:=J,ret:=a2 } (E1 b d x (obj b3 OC (cq m)::L))) ?_ ?_
 .by_cases h0:m.m.Ν=0
  .rw[Ω h0];refine RA ?_;intros;exact⟨(),trivial,aG,E.refl _⟩
  .rw[Ο h0,ed];refine RA ?_;intros;exact⟨(),trivial,aG,E.refl _⟩
 rintro _ _;simp only[G9,E1,cW];have c0 : -9223372036854775808+1099511627776<=W.iL m.m.a1+(if m.m.Ν=0 then m.m.n else 0)/\W.iL m.m.a1+(if m.m.Ν=0 then m.m.n else 0)<=2199023255552:=by split<;>omega
 obtain⟨c0,e5⟩:=c0;refine Β.c7 (α:=Unit) (λ_=>True) (λ_=>[(0,ay bc),(3,ay b3),(4,K 0),(5,ae pad pts.length J3),(7,K (dt W m.m))]) (λ_=>τ aK 3 pad pts::G9 b bc s { z with ξ:=A,imp:=J,ret:=a2 } (E1 b d x (obj b3 OC (cq m)::L))) ?_ ?_
 .rw[e2];generalize W.iL m.m.a1+(if m.m.Ν=0 then m.m.n else 0)=t1 at *;by_cases h0:m.m.to=0
  .rw[Ω h0];refine RA ?_;intros;exact⟨(),trivial,aG,E.refl _⟩
  .rw[Ο h0,Int.sub_zero];refine RA ?_;intros;exact⟨(),trivial,aG,E.refl _⟩
 rintro _ _;simp only[G9,E1,cW];by_cases b1:dt W m.m>1099511627776
 .rw[Ω b1];refine RA ?_;intros;exact KX.a8 aC aj ⟨{ z with ξ:=A,imp:=J,ret:=a2 },rfl,(λh=>iJ (show(_:Int)=0 from h) oT),rfl⟩
 rw[Ο b1];clear e2 c0 e5;refine RA ?_;intros;refine δ.No (Ef.d9 (Η:=Qz) (e:=dt W m.m) rfl rfl rfl rfl) ?_;rintro _ _ rfl;repeat first|refine Β.sm 15 ?_|refine dz ?_|intro _|refine bQ ?_
 rename_i b9
 have b2:∀(gi:OA) (iM:Nat),fw (P4 fl pad J3 gi iM)=[K (d*4294967296+(x.Μ.length:Int)+(z.Μ.length:Int)),K s.r,K s.Ζ,K s.B,K s.Rt,K m.m.Ν,K m.m.to,K m.m.a1,K m.m.n,ae pad pts.length J3,ae gi (lc s.m W m.m).length iM]:=by
  intro gi iM;rw[b5,d6];rfl
 refine Β.c7 (α:=OA×Nat) (λ_=>True) (λ_=>[(0,ay bc),(3,ay b3),(4,K 0),(9,ay b9)]) (λg=>obj b9 gZ (fw (P4 fl pad J3 g.1 g.2))::τ (eU .i64) 1 g.1 (lc s.m W m.m)::τ aK 3 pad pts::G9 b bc s { z with ξ:=A,imp:=J,ret:=a2,iL:=ez z.iL m.m.a1 (dt W m.m) } (E1 b d x (obj b3 OC (cq m)::L))) ?_ ?_
 .have e4:¬s.Ζ=4:=by unfold Pe at c4;omega
  have b8:¬s.Ζ=10:=by unfold Pe at c4;omega
  have e:lc s.m W m.m=[]:=Ο (λq=>q.2.elim e4 b8);by_cases h0:m.m.Ν=0
  all_goals
   refine RA ?_;intros;refine⟨(none,0),trivial,aG,?_⟩
   rw[b2,e]
   refine E.trans ?_ (E.a8 (E.f7 (eU .i64) 1 none))
   exact aj
 rintro⟨gi,iM⟩ _;simp only[G9,E1,cW];refine RA ?_;intros;refine δ.ef (Ef.a8 (Η:=fw) (e:=P4 fl pad J3 gi iM) rfl rfl rfl rfl rfl aY (ob _) D D) ac ?_;rintro _ _⟨a4,a3,rfl,rfl⟩;repeat first|refine Β.sm 18 ?_|refine dz ?_|intro _|refine bQ ?_
 have a5:fl.r=fc d Oq.length W:=by rw[b5]
 have b4:fl.n=m.m.n:=by rw[b5]
 have c1:fl.made=lc s.m W m.m:=by rw[b5]
 have c2:fl.Γ=pts:=by rw[b5]
 refine Β.cM (Ε:=obj b9 gZ (fw (P4 fl pad J3 gi iM))::G9 b bc s { z with ξ:=A,imp:=J,ret:=a2,iL:=ez z.iL m.m.a1 (dt W m.m),Μ:=z.Μ++[P4 fl pad J3 gi iM],C4:=a4,F3:=a3 } (E1 b d x (obj b3 OC (cq m)::L))) ?_ ?_
 .simp only[G9,E1,cW];refine(E.at (Φ:=τ (eU .i64) 1 gi (lc s.m W m.m)) (E.refl _)).trans ?_;refine(E.at (Φ:=τ aK 3 pad pts) (E.refl _)).trans ?_;rw[<-c2,<-c1];refine(E.g8 (cT _ _ _ _) (cT _ _ _ _)).trans ?_;refine(E.at (Φ:=η OZ z.Μ) (E.refl _)).trans ?_;refine((E.a8 (E.d7 (f:=OZ) (x:=P4 fl pad J3 gi iM) xx)).trans (E.c9 xx)).trans ?_;exact aj
 have d2:∀i,(ε (ez z.iL m.m.a1 (dt W m.m)) i).getD ((ε x.iL i).getD 0)=Pr W.iL m.m.a1 (dt W m.m) i:=by
  intro i;unfold ε Pr;have hq:=ot (m:=z.iL) (k:=m.m.a1) (q:=i) (a:=dt W m.m);refine(congrArg (λo:Option Int=>o.getD ((ε x.iL i).getD 0)) hq).trans ?_;by_cases hi:i=m.m.a1
  .rw[Ω hi,Ω hi];rfl
  .rw[Ο hi,Ο hi];exact hW.iL i
 have d1:(z.Μ++[P4 fl pad J3 gi iM]).map O7.m=W.Μ++[fl]:=by rw[aQ,hW.Μ];rfl
 simp only[G9,E1,cW];by_cases h0:m.m.to=0
 .rw[Ω h0];refine RA ?_;intros;refine δ.ef (Ef.a8 (Η:=eU .i64) (e:=(P4 fl pad J3 gi iM).m.r) rfl rfl rfl rfl rfl aY (by simp[eU,Value.oneCell']) D D) ac ?_;rintro _ _⟨c6,b6,rfl,rfl⟩;refine RA ?_;intros;refine KX.a8 aC ?_ ⟨{ z with ξ:=A,imp:=J,ret:=a2,iL:=ez z.iL m.m.a1 (dt W m.m),Μ:=z.Μ++[P4 fl pad J3 gi iM],C4:=a4,F3:=a3,NW:=z.NW++[fl.r],OG:=c6,OH:=b6 },rfl,λ_=>⟨b0,d2,d1,?_,a6,a7⟩,rfl⟩
  .simp only[G9,E1,cW];exact aj
  .show z.NW++[fl.r]=W.NW++[fc d Oq.length W];rw[hW.NW,a5]
 rw[Ο h0];refine RA ?_;intros;refine Y.cM (Ε:=G8 (Nq A x.ξ (m.m.to,m.m.a1))::obj b9 gZ (fw (P4 fl pad J3 gi iM))::G9 b bc s { z with ξ:=A,imp:=J,ret:=a2,iL:=ez z.iL m.m.a1 (dt W m.m),Μ:=z.Μ++[P4 fl pad J3 gi iM],C4:=a4,F3:=a3 } (E1 b d x (obj b3 OC (cq m)::L))) ?_ ?_
 .simp only[G9,E1,cW];refine(E.at (Φ:=η (λp:(Int×Int)×iI=>G8 p.2) A) (E.refl _)).trans ?_;refine(E.a8 (E.at (Φ:=η (λp:(Int×Int)×iI=>G8 p.2) x.ξ) (E.refl _))).trans ?_;refine(vf (m.m.to,m.m.a1)).trans ?_;exact aj
 simp only[G9,E1];refine Y.cr (rW (b:=b) (d:=d) (x:=x) (s:=s) (z:={ z with ξ:=A,imp:=J,ret:=a2,iL:=ez z.iL m.m.a1 (dt W m.m),Μ:=z.Μ++[P4 fl pad J3 gi iM],C4:=a4,F3:=a3 }) m.m.to m.m.a1) ?_;dsimp only;have e6:=b0 m.m.to m.m.a1;have d5:=e7 I m.m.to m.m.a1;have e0:(Np (cX x) W m.m m.m.to m.m.a1).length<=4096:=aO d5.len D;have e1:=d5.D3;rw[<-e6] at e0 e1 ⊢;generalize hsk:Nq A x.ξ (m.m.to,m.m.a1)=sk at *;simp only[iI.v,cW];by_cases d3:4096<=sk.D3.length
 .rw[Ω d3];refine RA ?_;intros;refine KX.a8 aC ?_ ⟨{ z with ξ:=A,imp:=J,ret:=a2,iL:=ez z.iL m.m.a1 (dt W m.m),Μ:=z.Μ++[P4 fl pad J3 gi iM],C4:=a4,F3:=a3 },rfl,(λh=>iJ (show(_:Int)=0 from h) oT),rfl⟩;exact aj
 rw[Ο d3];refine RA ?_;intros;refine δ.cM (E.at (Φ:=G8 sk) (E.refl _)) ?_
 have c5:a0 ((P4 fl pad J3 gi iM).m.r,0,(P4 fl pad J3 gi iM).m.n):=by
  show a0 (fl.r,0,fl.n);rw[a5,b4,d6];unfold a0;dsimp only;omega
 refine δ.ca (Gx sk.ad sk.cap sk.D3 ((P4 fl pad J3 gi iM).m.r,0,(P4 fl pad J3 gi iM).m.n) e0 e1 c5) ?_;rintro _ _⟨b7,a9,rfl,rfl⟩;refine RA ?_;intros;refine δ.No (Ef.d9 (Η:=iI.v) (e:=(⟨b7,a9,bF sk.D3 (fl.r,0,fl.n)⟩:iI)) rfl rfl rfl rfl) ?_;rintro _ _ rfl;refine RA ?_;intros;refine KX.a8 aC ?_ ⟨{ z with ξ:=ez A (m.m.to,m.m.a1) ⟨b7,a9,bF sk.D3 (fl.r,0,fl.n)⟩,imp:=J,ret:=a2,iL:=ez z.iL m.m.a1 (dt W m.m),Μ:=z.Μ++[P4 fl pad J3 gi iM],C4:=a4,F3:=a3 },rfl,λ_=>⟨?_,d2,d1,hW.NW,a6,a7⟩,rfl⟩
 .simp only[G9,E1,cW];refine(E.RI b7).trans ?_;refine(E.at (Φ:=η (λp:(Int×Int)×iI=>G8 p.2) A) (E.refl _)).trans ?_;refine(E.at (Φ:=G8 ⟨b7,a9,bF sk.D3 (fl.r,0,fl.n)⟩) (rJ (k:=(m.m.to,m.m.a1)))).trans ?_;exact aj
 .intro a i;dsimp only;rw[oD];unfold PS;by_cases hq:a=m.m.to/\i=m.m.a1
  .obtain⟨rfl,rfl⟩:=hq;rw[Ω rfl,Ω ⟨rfl,rfl⟩];dsimp only;rw[a5,b4]
  .rw[Ο (λh=>hq (by simpa using h)),Ο hq];exact b0 a i
structure TY (S:Τ) (x:Od):Prop where
 υ:x.υ.m=S.υ
 Ul:x.υ.hx
 ξ:∀a i,(fM x.ξ (a,i)).D3=S.ξ a i
 full:∀p∈x.ξ,p.2.D3≠[]
 iL:∀i,(ε x.iL i).getD 0=S.iL i
 Ev:x.Ev.map L9.m=S.Ev
 Μ:x.Μ.map (·.m)=S.Μ
 imp:P7 (fM x.imp) (dm S.Μ)
 ret:P7 (fM x.ret) (jK S.Μ)
def jW(b:Nat)(S:Τ)(x:Od):Ι:=ee (TY S x)::E1 b S.D9 x []
def aT(b:Nat)(S:Τ):HP:=hex λx=>cw (jW b S x)
def je{b:Nat}{S:Τ}{L:Ι}(x:Od)(h:TY S x):E (E1 b S.D9 x L) (aT b S::L) :=
 E.f9 (f:=jW b S) x (E.pure h (E.refl _))
def Ky{S:Τ}{x:Od}(h:TY S x):R8 x=S.now:=by
 unfold Τ.now R8;rw[<-h.Ev,List.getLast?_map,Option.map_map];rfl
abbrev Ec:=Yv [.ev 13,.ev 14,.ef 15]
def RV{φ ψ:Prop}(k:ψ)(h:Hid ψ->φ:=by intro k;(repeat (first|refine ab ?_|intro B8|refine Β.dr 62 6 Ec ?_));(repeat revert B8);exact Hid.out k):φ:=h ⟨k⟩
def FA{L:Ι}(b:Nat)(S:Τ)(k:Nat)(hS:St k S)(hc:S.υ.Ok)(h0:0<=S.now)(x:Od)(hF:TY S x)(s:L9)(hs:RN s)(b5:s.gN.length<=s.iM)(hk:k+C6 s.m.gN<=2000)(hT:∀mx,TO mx) :
  Υ Λ 76 #[ay b,bC (eH s)] (E1 b S.D9 x (stM s::Nb s::L)) (λv Ε =>
   ((E2 S s.m).1≠0/\v=.tuple #[.pointer none,K (E2 S s.m).1]/\Ε = E1 b S.D9 x (stM s::Nb s::L)) \/
   ((E2 S s.m).1=0/\∃bc s' z,v=.tuple #[ay bc,K 0]/\(s'.m=s.m.at (cS S)/\Us x z S.Μ (E2 S s.m).2)/\Ε = G9 b bc s' z (E1 b S.D9 x (stM s'::Nb s'::stM s::Nb s::L)))):=by
 obtain⟨a4,c5⟩:=hS.g.D9;have f0:=hS.g.Ev;have e9:=hS.g.Μ;have e6:x.Ev.length=S.Ev.length:=by rw[<-hF.Ev,ak]
 have f1:x.Μ.length=S.Μ.length:=by rw[<-hF.Μ,ak]
 have hB:=hF.Ul;have e1:=hs.len;have b2:=hF.υ;have e0:=hB.B7;have b0:R8 x=S.now:=Ky hF;have c0:cX x=fW S.υ:=by funext i;unfold cX fW;rw[<-b2];rfl
 refine Υ.bd ?_;simp only[E1,cJ];by_cases I:65536<=S.Ev.length
 .have e:E2 S s.m=(4,Nk S):=by unfold E2;rw[Ω I]
  rw[e];refine RV ?_;intros;exact KX.a8 aC aj (.inl ⟨by dsimp only;omega,rfl,rfl⟩)
 refine RV ?_;intros;refine Y.cM (E.at (Φ:=Nb s) (E.refl _)) ?_;refine Y.cM (E.at (Φ:=Oc x.υ) (E.refl _)) ?_;refine Y.cr (DF (b:=b) (d:=S.D9) (x:=x) s hs.kd hs.Γ (b2▸hc) hB D e1 b5 hs.K8 (b0▸h0)) ?_;rw[b2,b0];by_cases Q:gD S.υ S.now s.m
 case neg =>
  have e:E2 S s.m=(1,Nk S):=by unfold E2;rw[Ο I,Ω Q]
  rw[e,bz Q];refine RV ?_;intros;exact KX.a8 aC aj (.inl ⟨by dsimp only;omega,rfl,rfl⟩)
 have e:E2 S s.m=cQ S.D9 S.Μ (fW S.υ) (s.m.at (cS S)) (Nk S) s.m.gN:=by unfold E2;rw[Ο I,Ο (λh=>h Q)]
 rw[e,bO Q];have hA:=Wc.1 Q;have d2:=mE Q;have c1:s.m.gN=s.gN.map J5.m:=rfl;have b7:s.gN.length<=64:=by have:=Q.2.2.2.1.2;rwa [c1,ak] at this
 have e4:∀m∈s.gN,m.m.Γ.length<=1000000:=λm hm=>by
  rcases (d2 m.m (by rw[c1];exact O6 hm)).g.Γ with q|q
  .rw[q];decide
  .have:=q.1.2;omega
 refine RV ?_;intros;refine Y.cM (E.at (Φ:=stM s) (E.a8 (E.at (Φ:=Nb s) (E.refl _)))) ?_;refine Y.ca (Ac s b7 e4) ?_;rintro _ _⟨s',rfl,c4,rfl⟩;have b4:s'.gN.map J5.m=s.m.gN:=congrArg D7.gN c4;have e5:s'.gN.length=s.gN.length:=by have:=congrArg List.length b4;rwa [c1,ak,ak] at this
 have c6:s'.Ζ=s.Ζ:=congrArg D7.Ζ c4;simp only[eH];refine RV ?_;intros;refine Y.ef (Ef.c8 D6 iI.v (.inl rfl)) ac ?_;rintro _ _⟨cs,rfl,rfl⟩;refine RV ?_;intros;refine Y.ef (Ef.c8 gT Qz (.inl rfl)) ac ?_;rintro _ _⟨ct,rfl,rfl⟩;refine RV ?_;intros;refine Y.ef (Ef.c8 gT iI.v (.inl rfl)) ac ?_;rintro _ _⟨ci,rfl,rfl⟩;refine RV ?_;intros;refine Y.ef (Ef.c8 gT iI.v (.inl rfl)) ac ?_;rintro _ _⟨cr,rfl,rfl⟩;refine RV ?_;intros;rename_i bc;have d5:S.D9*4294967296+(x.Ev.length:Int)=cS S:=by unfold cS;rw[e6]
 rw[d5]
 have b1:(s'.at (cS S)).m=s.m.at (cS S):=by
  show D7.at s'.m (cS S)=_;rw[c4]
 have a5:S.Μ++(Nk S).Μ=S.Μ:=aJ _;have a6:Us x ⟨cs,ct,ci,cr,[],[],[],[],[],none,0,[],none,0⟩ S.Μ (Nk S):=⟨λa i=>hF.ξ a i,λi=>hF.iL i,rfl,rfl,by rw[a5];exact hF.imp,by rw[a5];exact hF.ret⟩
 refine Β.loop (α:=Nat×Sw×Wk) (λg=>g.1<=s'.gN.length/\Us x g.2.1 S.Μ g.2.2/\Ss S.D9 S.Μ (k+C6 (s.m.gN.take g.1)) g.2.2/\g.2.2.Μ.length=g.1/\cQ S.D9 S.Μ (fW S.υ) (s.m.at (cS S)) (Nk S) s.m.gN=cQ S.D9 S.Μ (fW S.υ) (s.m.at (cS S)) g.2.2 (s.m.gN.drop g.1))
  (λg=>[(0,ay b),(4,.pointer none),(5,K 0),(6,ay bc),(48,ae s'.gi s'.gN.length s'.iM),(49,K (s'.gN.length:Int)),(50,K (g.1:Int))])
  (λg=>G9 b bc (s'.at (cS S)) g.2.1 (E1 b S.D9 x (stM s'::Nb s'::stM s::Nb s::L))) (λg=>s'.gN.length - g.1) (0,⟨cs,ct,ci,cr,[],[],[],[],[],none,0,[],none,0⟩,Nk S) ⟨aD _,a6,xo hS,rfl,rfl⟩ aG ?_ ?_
 .simp only[G9,E1,cW,cJ,L9.at,bq];refine(E.c8 fw 11 gZ).trans ?_;refine(E.c8 (eU .i64) 1 C3).trans ?_;refine(E.c7 (λp:(Int×Int)×iI=>G8 p.2)).trans ?_;refine(E.c7 (λp:Int×iI=>G8 p.2)).trans ?_;refine(E.c7 (λp:Int×iI=>G8 p.2)).trans ?_;refine(E.c7 OZ).trans ?_;exact aj
 rintro⟨i,z,W⟩ ⟨hi,hW,hO,d0,A⟩;dsimp only at hi hW hO d0 A ⊢;by_cases b9:i<s'.gN.length
 case neg =>
  have b6:s.m.gN.drop i=[]:=bV (by rw[<-b4,ak];omega);rw[b6] at A;rw[A];simp only[G9,E1,cW,cJ];refine RV ?_;intros;exact KX.a8 aC (E.refl _) (.inr ⟨rfl,bc,s'.at (cS S),z,rfl,⟨b1,hW⟩,rfl⟩)
 have d6:(i:Int).toNat=i:=D;have b3:s'.gN[i]!.m=s.m.gN[i]!:=by rw[<-b4];exact(sU J5.m b9).symm
 have b8:i<s.m.gN.length:=by rw[<-b4,ak];exact b9
 have d1:i<s.gN.length:=D;have d4:s'.gN[i]!.m=s.gN[i]!.m:=b3.trans (sU J5.m d1);have b6:s.m.gN.drop i=s'.gN[i]!.m::s.m.gN.drop (i+1):=by rw[b3];exact ka b8
 have a7:s'.gN[i]!.m∈s.m.gN:=by rw[b3];exact bI b8
 have a2:=hA.2.2.2.2.1 s'.gN[i]!.m a7;have a3:=d2 s'.gN[i]!.m a7;have hK:C6 (s.m.gN.take (i+1))=C6 (s.m.gN.take i)+(s'.gN[i]!.m.Γ.length+1):=by rw[IA b8,b3]
 have e8:=LL s.m.gN (i+1);have d3:∀p∈s'.gN[i]!.m.Γ,p.1<=9223372036854775807:=by rw[d4];exact hs.bd _ (bI d1)
 have e3:¬(s'.at (cS S)).Ζ=5->s'.gN[i]!.m.Γ=[]:=λh=>KA (n:=S.υ.B7.length) (k:=s.m.Ζ) hs.kd (λq=>h (c6.trans q)) a2;rw[b6] at A;have c3:cQ S.D9 S.Μ (fW S.υ) (s.m.at (cS S)) W (s'.gN[i]!.m::s.m.gN.drop (i+1))=if(ce S.D9 S.Μ (fW S.υ) (s.m.at (cS S)) W s'.gN[i]!.m).1=0 then cQ S.D9 S.Μ (fW S.υ) (s.m.at (cS S)) (ce S.D9 S.Μ (fW S.υ) (s.m.at (cS S)) W s'.gN[i]!.m).2 (s.m.gN.drop (i+1)) else((ce S.D9 S.Μ (fW S.υ) (s.m.at (cS S)) W s'.gN[i]!.m).1,W):=rfl;rw[c3] at A;have e2:=vD (hy:=fW S.υ) (s:=s.m.at (cS S)) (m:=s'.gN[i]!.m) a4 hO a3 D;have a9:=nu (hy:=fW S.υ) (s:=s.m.at (cS S)) (m:=s'.gN[i]!.m) a4 hO.g a3.g D;have J:=ED (L:=stM s'::Nb s'::stM s::Nb s::L) b bc S.D9 x (s'.at (cS S)) z s'.gN[i]! W S.Μ (k+C6 (s.m.gN.take i)) hF.Μ hW hO (show Sb s'.Ζ s'.gN[i]!.m by rw[c6];exact a3) D ⟨a2.1.1,by have h4:=a2.1.2;rw[<-b2] at h4;simpa [K9.m] using h4⟩ d3 (show Pe s'.Ζ by rw[c6];exact hs.kd) e3 ⟨a4,c5⟩ D D hT e0;rw[b1,c0] at J;have c2:(ce S.D9 S.Μ (fW S.υ) (s.m.at (cS S)) W s'.gN[i]!.m).1=0->(ce S.D9 S.Μ (fW S.υ) (s.m.at (cS S)) W s'.gN[i]!.m).2.Μ.length=W.Μ.length+1:=λh=>by rw[(a9 h).2,aA,bh]
 clear a9;generalize ce S.D9 S.Μ (fW S.υ) (s.m.at (cS S)) W s'.gN[i]!.m=Δ at *;refine Β.cM (Ε:=τ aK 3 s'.gN[i]!.pad s'.gN[i]!.m.Γ::G9 b bc (s'.at (cS S)) z (E1 b S.D9 x (stM s'::Nb s'::stM s::Nb s::L))) (by simp only[G9,E1];exact(E.at (Φ:=Nb s') (JZ b9)).trans aj) ?_;simp only[G9,E1,cW,cJ,stM];refine RV ?_;intros;rw[d6];refine Y.cM E.drop ?_;refine Y.ca (J) ?_;rintro _ _⟨z',rfl,e7,rfl⟩;by_cases hr:Δ.1=0
 .rw[Ω hr] at A;simp only[G9,E1,cW,cJ];refine RV ?_;intros;refine⟨(i+1,z',Δ.2),⟨by dsimp only;omega,e7 hr,by dsimp only;rw[hK,<-dc,<-dc];exact e2 hr,by dsimp only;rw[c2 hr,d0],A⟩,by dsimp only;omega,?_,E.refl _⟩;dsimp only;rw[bJ i];exact aG
 .rw[Ο hr] at A;rw[A];simp only[G9,E1,cW,cJ];refine RV ?_;intros;exact KX.en (.inl ⟨hr,rfl,rfl⟩)
end
section
open Go.V
theorem ER{d:Int}{fl:List E3}{hy:Int->Bool}{s:D7}{N:Nat}{W:Wk}{m:B1}(I:W.NW.length<=W.Μ.length)(Q:W.Μ.length<=N)(h3:∀f∈W.Μ,f.made.length<=N):(ce d fl hy s W m).2.NW.length<=(ce d fl hy s W m).2.Μ.length/\(ce d fl hy s W m).2.Μ.length<=W.Μ.length+1/\∀f∈(ce d fl hy s W m).2.Μ,f.made.length<=N:=by
 have hn:∀f∈W.Μ++[gH d fl.length hy s W m],f.made.length<=N:=λf hf=>by
  rcases J4 hf with h|h
  .exact h3 f h
  .rw[GO h];show(lc s W m).length<=N;grind [lc]
 have T:(W.Μ++[gH d fl.length hy s W m]).length=W.Μ.length+1:=by rw[aA,bh]
 grind [ce]
def su{d:Int}{fl:List E3}{hy:Int->Bool}{s:D7}{N:Nat}:∀(O:List B1) (W:Wk),W.NW.length<=W.Μ.length->W.Μ.length+O.length<=N->(∀f∈W.Μ,f.made.length<=N)->∀f∈(cQ d fl hy s W O).2.Μ,f.made.length<=N
 | [],_,_,_,h=>h
 | m::O,W,I,Q,h3=>by
  have e:cQ d fl hy s W (m::O)=if(ce d fl hy s W m).1=0 then cQ d fl hy s (ce d fl hy s W m).2 O else((ce d fl hy s W m).1,W):=rfl;rw[aL] at Q;obtain⟨g1,g2,g3⟩:=ER (d:=d) (fl:=fl) (hy:=hy) (s:=s) (N:=N) (m:=m) I D h3;rw[e];split
  .exact su O _ g1 D g3
  .exact h3
theorem oP{S:Τ}{s:D7}(h:(E2 S s).1=0):E2 S s=cQ S.D9 S.Μ (fW S.υ) (s.at (cS S)) (Nk S) s.gN:=by
 grind [E2]
def PK.made{d:Int}{c:B4}{S:Τ}(h:PK d c S):∀f∈S.Μ,f.made.length<=64:=by
 induction h with
 | zero=>intro f hf;cases hf
 | @post S s _ h0 ih =>
  have e1:bN S s=fF S s:=Ω h0;have hp:=jf h0;have T:=hp.2.2.2.1.2;rw[e1];intro f hf;rcases J4 (show f∈S.Μ++(E2 S s).2.Μ from hf) with q|q
  .exact ih f q
  .rw[oP h0] at q;exact su (N:=64) s.gN (Nk S) (ax _) (by show 0+_<=64;omega) (λf hf=>by cases hf) f q
