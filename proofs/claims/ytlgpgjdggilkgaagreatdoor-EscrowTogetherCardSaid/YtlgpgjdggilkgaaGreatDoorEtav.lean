/- Lemmas. -/
import Derived.Test.YtlgpgjdggilkgaaGreatDoorEtau
set_option linter.all false
set_option maxHeartbeats 4000000
namespace Go.Proofs.YtlgpgjdggilkgaaGreatDoor
section
open Go.V
attribute [local irreducible] Α GO GP δ ms GF GE Ev Ef C0 F CB GB V.Enters
abbrev AX:=Zc [.ev 10,.ev 11]
abbrev AW:=Zc [.ev 10]
abbrev yv:=Za [.ev 6,.ef 7]
abbrev yu:=Ze [.ev 17,.ev 18,.ev 19,.ev 20,.ev 21,.ev 22,.ev 23,.ev 24,.ev 25,.ev 26,.ev 27,.ev 28,.ev 29,.ev 30,.ev 31,.ev 32,.ev 33,.ev 34,.ev 35,.ev 36,.ev 37,.ev 38,.ev 39,.ev 40,.ev 41,.ev 42,.ev 43,.ev 44,.ev 45,.ev 46,.ev 47,.ev 48,.ev 49,.ev 50,.ev 51,.ev 52,.ef 53,.ef 54]
abbrev yr:=Za [.ef 6,.ef 7,.ev 8,.ev 9,.ef 10]
abbrev yq:=Za [.ev 6,.ef 7,.ef 8,.ev 9,.ev 10,.ef 11]
abbrev yp:=Zd [.ev 13,.ev 14,.ef 15,.ef 16]
def bP{φ ψ:Prop}(k:ψ)(h:Hid ψ->φ:=by intro k;(with_reducible apply Α.a8);first|refine Α.dr 186 4 AX (Hid.out k)|refine Α.dr 186 6 AW (Hid.out k)|refine Α.dr 186 13 yv (Hid.out k)|refine Α.dr 186 14 yu (Hid.out k)|refine Α.dr 186 17 yr (Hid.out k)|refine Α.dr 186 19 yq (Hid.out k)|refine Α.dr 186 24 yp (Hid.out k)):φ:=h ⟨k⟩
def RS{φ ψ:Prop}(k:ψ)(h:Hid ψ->φ:=by intro k;(repeat (first|refine ab ?_|intro B6|refine bP ?_));(repeat revert B6);exact Hid.out k):φ:=h ⟨k⟩
def EJ{L:Η}(b bc:Nat)(d:Int)(x:OB)(s:M0)(z:S5)(m:J3)(W:Wk)(ON:List E3)(k:Nat)(d4:x.Κ.map Pv.m=ON)(hW:UY x z ON W)(hA:SY d ON k W)(hm:SI s.Δ m.m)(hk:k+m.m.Β.length<=2000)(e9:0<=m.m.a1/\m.m.a1<x.π.B5.length)(hb:∀p∈m.m.Β,p.1<=9223372036854775807)(c4:PF s.Δ)(f1:¬s.Δ=5->m.m.Β=[])(f2:0<=d/\d<12)(h3:x.Κ.length<=4194304)(g0:W.Κ.length<64)(hT:∀mx,Ug mx)(e8:x.π.B5.length<=64) :
  Τ Θ 134 #[av bc,bF (cu m)] (ξ aL 3 m.pad m.m.Β::G9 b bc s z (E1 b d x L)) (λv Γ=>∃z',v=J (cg d ON (cW x) s.m W m.m).1 /\
   ((cg d ON (cW x) s.m W m.m).1=0->UY x z' ON (cg d ON (cW x) s.m W m.m).2)/\Γ = G9 b bc s z' (E1 b d x L)):=by
 have d0:=λ (ε:Η)=>Dq (L:=ε) b bc d x s z m W ON k d4 hW hA hm hk e9 hb c4 f1 hT e8;obtain⟨g5,g6⟩:=f2;obtain⟨g2,g3⟩:=hm.g.n;have g4:=hm.g.ne;obtain⟨g7,T⟩:=hA.g.id m.m.a1;have f4:ON.length=x.Κ.length:=by rw[<-d4,al]
 have f6:z.Κ.length=W.Κ.length:=by rw[<-hW.Κ,al]
 have g1:z.Oi.length<=64:=by rw[hW.Oi];have:=hA.g.Oi;omega
 have e7:=λ (he:N4 d (ON++W.Κ) s.m W m.m=0)=>uD (hl:=cW x) hA.g hm.g D he;have c3:=GT (d:=d) (nf:=ON.length) (hl:=cW x) (s:=s.m) (W:=W) hm (ON++W.Κ);refine Τ.bd ?_;refine RS ?_;intros;rename_i b3;refine GO.cL (Γ:=ξ aL 3 m.pad m.m.Β::G9 b bc s z (E1 b d x (obj b3 OY (cu m)::L))) (by simp only[G9,E1];exact ak) ?_;refine GO.ca (d0 (obj b3 OY (cu m)::L)) ?_;rintro _ _ (⟨K,pd,pn,pc,z',rfl,rfl⟩|⟨K,pad,J2,B,M,a2,rfl,f3,rfl⟩)
 .have e:cg d ON (cW x) s.m W m.m=(N4 d (ON++W.Κ) s.m W m.m,W):=by unfold cg;rw[Χ K]
  rw[e];generalize N4 d (ON++W.Κ) s.m W m.m=er at *;dsimp only;refine RS ?_;intros;exact KX.a8 aF (by simp only[G9,E1];exact ak) ⟨z',rfl,(λh=>hD h K),rfl⟩
 obtain⟨b0,a6,a7⟩:=f3;have d6:eZ d ON.length W=d*4294967296+(x.Κ.length:Int)+(z.Κ.length:Int):=by unfold eZ;rw[f6,f4]
 have f0:cg d ON (cW x) s.m W m.m=if du W m.m>1099511627776 then(4,W)
   else if m.m.to=0 then(0,⟨NI (cW x) W m.m,Pu W.id m.m.a1 (du W m.m),W.Κ++[gF d ON.length (cW x) s.m W m.m],W.Oi++[eZ d ON.length W]⟩)
   else if 4096<=(NI (cW x) W m.m m.m.to m.m.a1).length then(4,W)
   else(0,⟨Qf (NI (cW x) W m.m) m.m.to m.m.a1 (bH (NI (cW x) W m.m m.m.to m.m.a1) (eZ d ON.length W,0,m.m.n)),Pu W.id m.m.a1 (du W m.m),W.Κ++[gF d ON.length (cW x) s.m W m.m],W.Oi⟩):=by unfold cg;rw[Ν (λq=>q K)]
 have b5:gF d ON.length (cW x) s.m W m.m=⟨eZ d ON.length W,s.A,s.Δ,s.E,s.RV,m.m.Λ,m.m.to,m.m.a1,m.m.n,PU (cW x) s.m W m.m,li s.m W m.m⟩:=rfl;rw[<-c3.1] at a6;rw[<-c3.2] at a7;clear c3 d0;rw[f0];generalize gF d ON.length (cW x) s.m W m.m=fl at *;generalize PU (cW x) s.m W m.m=pts at *;rw[aH] at a6 a7;have e2:du W m.m=W.id m.m.a1+(if m.m.Λ=0 then m.m.n else 0) - (if m.m.to=0 then m.m.n else 0):=rfl;have e3:=hW.id m.m.a1;simp only[G9,E1,cV];refine RS ?_;intros;refine δ.Ob (Ev.a8 rfl rfl) ae ?_;repeat first|refine Α.sm 5 ?_|refine dA ?_|intro _|refine bP ?_
 refine Α.c7 (α:=Unit) (λ_=>True) (λ_=>[(0,av bc),(3,av b3),(4,J 0),(5,ah pad pts.length J2),(7,J (W.id m.m.a1))]) (λ_=>ξ aL 3 pad pts::G9 b bc s { z with ν:=B,imp:=M,ret:=a2 } (E1 b d x (obj b3 OY (cu m)::L))) ?_ ?_
 .cases U:@List.lookup _ _ instBEqOfDecidableEq m.m.a1 z.id with
  | some t =>
   simp only[fm,Option.getD_some,Option.isSome_some];have e:W.id m.m.a1=t:=by rw[<-e3];unfold ζ;rw[U];rfl
   rw[e];refine RS ?_;intros;exact⟨(),trivial,aD,F.refl _⟩
  | none =>
   simp only[ik,Option.getD_none,Option.isSome_none];have e:W.id m.m.a1=(ζ x.id m.m.a1).getD 0:=by rw[<-e3];unfold ζ;rw[U];rfl
   rw[e];refine RS ?_;intros;refine δ.Ob (Ev.j5 rfl rfl) ae ?_;rw[ML];refine RS ?_;intros;exact⟨(),trivial,aD,F.refl _⟩
 rintro _ _;simp only[G9,E1,cV];refine Α.c7 (α:=Unit) (λ_=>True) (λ_=>[(0,av bc),(3,av b3),(4,J 0),(5,ah pad pts.length J2),(7,J (W.id m.m.a1+(if m.m.Λ=0 then m.m.n else 0)))]) (λ_=>ξ aL 3 pad pts::G9 b bc s { z with ν:=B,imp:=M,ret:=a2 } (E1 b d x (obj b3 OY (cu m)::L))) ?_ ?_
 .by_cases h0:m.m.Λ=0
  .rw[Χ h0];refine RS ?_;intros;exact⟨(),trivial,aD,F.refl _⟩
  .rw[Ν h0,dC];refine RS ?_;intros;exact⟨(),trivial,aD,F.refl _⟩
 rintro _ _;simp only[G9,E1,cV];have c0 : -9223372036854775808+1099511627776<=W.id m.m.a1+(if m.m.Λ=0 then m.m.n else 0)/\W.id m.m.a1+(if m.m.Λ=0 then m.m.n else 0)<=2199023255552:=by split<;>omega
 obtain⟨c0,e5⟩:=c0;refine Α.c7 (α:=Unit) (λ_=>True) (λ_=>[(0,av bc),(3,av b3),(4,J 0),(5,ah pad pts.length J2),(7,J (du W m.m))]) (λ_=>ξ aL 3 pad pts::G9 b bc s { z with ν:=B,imp:=M,ret:=a2 } (E1 b d x (obj b3 OY (cu m)::L))) ?_ ?_
 .rw[e2];generalize W.id m.m.a1+(if m.m.Λ=0 then m.m.n else 0)=t1 at *;by_cases h0:m.m.to=0
  .rw[Χ h0];refine RS ?_;intros;exact⟨(),trivial,aD,F.refl _⟩
  .rw[Ν h0,Int.sub_zero];refine RS ?_;intros;exact⟨(),trivial,aD,F.refl _⟩
 rintro _ _;simp only[G9,E1,cV];by_cases b1:du W m.m>1099511627776
 .rw[Χ b1];refine RS ?_;intros;exact KX.a8 aF ak ⟨{ z with ν:=B,imp:=M,ret:=a2 },rfl,(λh=>hD (show(_:Int)=0 from h) uQ),rfl⟩
 rw[Ν b1];clear e2 c0 e5;refine RS ?_;intros;refine δ.NH (Ef.d9 (Ε:=Q2) (e:=du W m.m) rfl rfl rfl rfl) ?_;rintro _ _ rfl;repeat first|refine Α.sm 15 ?_|refine dA ?_|intro _|refine bP ?_
 rename_i b9
 have b2:∀(fH:OA) (iI:Nat),ft (Qr fl pad J2 fH iI)=[J (d*4294967296+(x.Κ.length:Int)+(z.Κ.length:Int)),J s.A,J s.Δ,J s.E,J s.RV,J m.m.Λ,J m.m.to,J m.m.a1,J m.m.n,ah pad pts.length J2,ah fH (li s.m W m.m).length iI]:=by
  intro fH iI;rw[b5,d6];rfl
 refine Α.c7 (α:=OA×Nat) (λ_=>True) (λ_=>[(0,av bc),(3,av b3),(4,J 0),(9,av b9)]) (λg=>obj b9 gX (ft (Qr fl pad J2 g.1 g.2))::ξ (dJ .i64) 1 g.1 (li s.m W m.m)::ξ aL 3 pad pts::G9 b bc s { z with ν:=B,imp:=M,ret:=a2,id:=cZ z.id m.m.a1 (du W m.m) } (E1 b d x (obj b3 OY (cu m)::L))) ?_ ?_
 .have e4:¬s.Δ=4:=by unfold PF at c4;omega
  have b8:¬s.Δ=10:=by unfold PF at c4;omega
  have e:li s.m W m.m=[]:=Ν (λq=>q.2.elim e4 b8);by_cases h0:m.m.Λ=0
  all_goals
   refine RS ?_;intros;refine⟨(none,0),trivial,aD,?_⟩
   rw[b2,e]
   refine F.trans ?_ (F.c7 (F.f5 (dJ .i64) 1 none))
   exact ak
 rintro⟨fH,iI⟩ _;simp only[G9,E1,cV];refine RS ?_;intros;refine δ.ef (Ef.a8 (Ε:=ft) (e:=Qr fl pad J2 fH iI) rfl rfl rfl rfl rfl bh (oh _) D D) ae ?_;rintro _ _⟨a4,a3,rfl,rfl⟩;repeat first|refine Α.sm 18 ?_|refine dA ?_|intro _|refine bP ?_
 have a5:fl.A=eZ d ON.length W:=by rw[b5]
 have b4:fl.n=m.m.n:=by rw[b5]
 have c1:fl.made=li s.m W m.m:=by rw[b5]
 have c2:fl.Β=pts:=by rw[b5]
 refine Α.cL (Γ:=obj b9 gX (ft (Qr fl pad J2 fH iI))::G9 b bc s { z with ν:=B,imp:=M,ret:=a2,id:=cZ z.id m.m.a1 (du W m.m),Κ:=z.Κ++[Qr fl pad J2 fH iI],C3:=a4,F1:=a3 } (E1 b d x (obj b3 OY (cu m)::L))) ?_ ?_
 .simp only[G9,E1,cV];refine(F.at (Ο:=ξ (dJ .i64) 1 fH (li s.m W m.m)) (F.refl _)).trans ?_;refine(F.at (Ο:=ξ aL 3 pad pts) (F.refl _)).trans ?_;rw[<-c2,<-c1];refine(F.f9 (cQ _ _ _ _) (cQ _ _ _ _)).trans ?_;refine(F.at (Ο:=Ψ Pm z.Κ) (F.refl _)).trans ?_;refine((F.c7 (F.d7 (f:=Pm) (x:=Qr fl pad J2 fH iI) xt)).trans (F.c9 xt)).trans ?_;exact ak
 have d2:∀i,(ζ (cZ z.id m.m.a1 (du W m.m)) i).getD ((ζ x.id i).getD 0)=Pu W.id m.m.a1 (du W m.m) i:=by
  intro i;unfold ζ Pu;have hq:=oz (m:=z.id) (k:=m.m.a1) (q:=i) (a:=du W m.m);refine(congrArg (λo:Option Int=>o.getD ((ζ x.id i).getD 0)) hq).trans ?_;by_cases hi:i=m.m.a1
  .rw[Χ hi,Χ hi];rfl
  .rw[Ν hi,Ν hi];exact hW.id i
 have d1:(z.Κ++[Qr fl pad J2 fH iI]).map Pv.m=W.Κ++[fl]:=by rw[aQ,hW.Κ];rfl
 simp only[G9,E1,cV];by_cases h0:m.m.to=0
 .rw[Χ h0];refine RS ?_;intros;refine δ.ef (Ef.a8 (Ε:=dJ .i64) (e:=(Qr fl pad J2 fH iI).m.A) rfl rfl rfl rfl rfl bh (by simp[dJ,Value.oneCell']) D D) ae ?_;rintro _ _⟨c6,b6,rfl,rfl⟩;refine RS ?_;intros;refine KX.a8 aF ?_ ⟨{ z with ν:=B,imp:=M,ret:=a2,id:=cZ z.id m.m.a1 (du W m.m),Κ:=z.Κ++[Qr fl pad J2 fH iI],C3:=a4,F1:=a3,Oi:=z.Oi++[fl.A],O2:=c6,O3:=b6 },rfl,λ_=>⟨b0,d2,d1,?_,a6,a7⟩,rfl⟩
  .simp only[G9,E1,cV];exact ak
  .show z.Oi++[fl.A]=W.Oi++[eZ d ON.length W];rw[hW.Oi,a5]
 rw[Ν h0];refine RS ?_;intros;refine GO.cL (Γ:=G8 (NK B x.ν (m.m.to,m.m.a1))::obj b9 gX (ft (Qr fl pad J2 fH iI))::G9 b bc s { z with ν:=B,imp:=M,ret:=a2,id:=cZ z.id m.m.a1 (du W m.m),Κ:=z.Κ++[Qr fl pad J2 fH iI],C3:=a4,F1:=a3 } (E1 b d x (obj b3 OY (cu m)::L))) ?_ ?_
 .simp only[G9,E1,cV];refine(F.at (Ο:=Ψ (λp:(Int×Int)×h1=>G8 p.2) B) (F.refl _)).trans ?_;refine(F.c7 (F.at (Ο:=Ψ (λp:(Int×Int)×h1=>G8 p.2) x.ν) (F.refl _))).trans ?_;refine(vb (m.m.to,m.m.a1)).trans ?_;exact ak
 simp only[G9,E1];refine GO.cr (rW (b:=b) (d:=d) (x:=x) (s:=s) (z:={ z with ν:=B,imp:=M,ret:=a2,id:=cZ z.id m.m.a1 (du W m.m),Κ:=z.Κ++[Qr fl pad J2 fH iI],C3:=a4,F1:=a3 }) m.m.to m.m.a1) ?_;dsimp only;have e6:=b0 m.m.to m.m.a1;have d5:=e7 K m.m.to m.m.a1;have e0:(NI (cW x) W m.m m.m.to m.m.a1).length<=4096:=aO d5.len D;have e1:=d5.C8;rw[<-e6] at e0 e1 ⊢;generalize hsk:NK B x.ν (m.m.to,m.m.a1)=sk at *;simp only[h1.v,cV];by_cases d3:4096<=sk.C8.length
 .rw[Χ d3];refine RS ?_;intros;refine KX.a8 aF ?_ ⟨{ z with ν:=B,imp:=M,ret:=a2,id:=cZ z.id m.m.a1 (du W m.m),Κ:=z.Κ++[Qr fl pad J2 fH iI],C3:=a4,F1:=a3 },rfl,(λh=>hD (show(_:Int)=0 from h) uQ),rfl⟩;exact ak
 rw[Ν d3];refine RS ?_;intros;refine δ.cL (F.at (Ο:=G8 sk) (F.refl _)) ?_
 have c5:a0 ((Qr fl pad J2 fH iI).m.A,0,(Qr fl pad J2 fH iI).m.n):=by
  show a0 (fl.A,0,fl.n);rw[a5,b4,d6];unfold a0;dsimp only;omega
 refine δ.ca (GJ sk.ad sk.cap sk.C8 ((Qr fl pad J2 fH iI).m.A,0,(Qr fl pad J2 fH iI).m.n) e0 e1 c5) ?_;rintro _ _⟨b7,a9,rfl,rfl⟩;refine RS ?_;intros;refine δ.NH (Ef.d9 (Ε:=h1.v) (e:=(⟨b7,a9,bH sk.C8 (fl.A,0,fl.n)⟩:h1)) rfl rfl rfl rfl) ?_;rintro _ _ rfl;refine RS ?_;intros;refine KX.a8 aF ?_ ⟨{ z with ν:=cZ B (m.m.to,m.m.a1) ⟨b7,a9,bH sk.C8 (fl.A,0,fl.n)⟩,imp:=M,ret:=a2,id:=cZ z.id m.m.a1 (du W m.m),Κ:=z.Κ++[Qr fl pad J2 fH iI],C3:=a4,F1:=a3 },rfl,λ_=>⟨?_,d2,d1,hW.Oi,a6,a7⟩,rfl⟩
 .simp only[G9,E1,cV];refine(F.Sf b7).trans ?_;refine(F.at (Ο:=Ψ (λp:(Int×Int)×h1=>G8 p.2) B) (F.refl _)).trans ?_;refine(F.at (Ο:=G8 ⟨b7,a9,bH sk.C8 (fl.A,0,fl.n)⟩) (rI (k:=(m.m.to,m.m.a1)))).trans ?_;exact ak
 .intro a i;dsimp only;rw[oI];unfold Qf;by_cases hq:a=m.m.to/\i=m.m.a1
  .obtain⟨rfl,rfl⟩:=hq;rw[Χ rfl,Χ ⟨rfl,rfl⟩];dsimp only;rw[a5,b4]
  .rw[Ν (λh=>hq (by simpa using h)),Ν hq];exact b0 a i
structure Uq (S:Ρ) (x:OB):Prop where
 π:x.π.m=S.π
 UP:x.π.fG
 ν:∀a i,(fJ x.ν (a,i)).C8=S.ν a i
 full:∀p∈x.ν,p.2.C8≠[]
 id:∀i,(ζ x.id i).getD 0=S.id i
 D9:x.D9.map M0.m=S.D9
 Κ:x.Κ.map (·.m)=S.Κ
 imp:Qu (fJ x.imp) (dm S.Κ)
 ret:Qu (fJ x.ret) (jM S.Κ)
def jY(b:Nat)(S:Ρ)(x:OB):Η:=ee (Uq S x)::E1 b S.D8 x []
def aU(b:Nat)(S:Ρ):HP:=hex λx=>cx (jY b S x)
def jf{b:Nat}{S:Ρ}{L:Η}(x:OB)(h:Uq S x):F (E1 b S.D8 x L) (aU b S::L) :=
 F.f8 (f:=jY b S) x (F.pure h (F.refl _))
def KP{S:Ρ}{x:OB}(h:Uq S x):SF x=S.now:=by
 unfold Ρ.now SF;rw[<-h.D9,List.getLast?_map,Option.map_map];rfl
abbrev Ee:=Zd [.ev 13,.ev 14,.ef 15]
def So{φ ψ:Prop}(k:ψ)(h:Hid ψ->φ:=by intro k;(repeat (first|refine ab ?_|intro B6|refine Α.dr 62 6 Ee ?_));(repeat revert B6);exact Hid.out k):φ:=h ⟨k⟩
def FE{L:Η}(b:Nat)(S:Ρ)(k:Nat)(hS:SZ k S)(hc:S.π.Ok)(h0:0<=S.now)(x:OB)(hF:Uq S x)(s:M0)(hs:Sl s)(b5:s.fe.length<=s.iI)(hk:k+C5 s.m.fe<=2000)(hT:∀mx,Ug mx) :
  Τ Θ 76 #[av b,bF (eK s)] (E1 b S.D8 x (stM s::Nu s::L)) (λv Γ =>
   ((E2 S s.m).1≠0/\v=.tuple #[.pointer none,J (E2 S s.m).1]/\Γ = E1 b S.D8 x (stM s::Nu s::L)) \/
   ((E2 S s.m).1=0/\∃bc s' z,v=.tuple #[av bc,J 0]/\(s'.m=s.m.at (cT S)/\UY x z S.Κ (E2 S s.m).2)/\Γ = G9 b bc s' z (E1 b S.D8 x (stM s'::Nu s'::stM s::Nu s::L)))):=by
 obtain⟨a4,c5⟩:=hS.g.D8;have f0:=hS.g.D9;have e9:=hS.g.Κ;have e6:x.D9.length=S.D9.length:=by rw[<-hF.D9,al]
 have f1:x.Κ.length=S.Κ.length:=by rw[<-hF.Κ,al]
 have hB:=hF.UP;have e1:=hs.len;have b2:=hF.π;have e0:=hB.B5;have b0:SF x=S.now:=KP hF;have c0:cW x=fV S.π:=by funext i;unfold cW fV;rw[<-b2];rfl
 refine Τ.bd ?_;simp only[E1,cJ];by_cases K:65536<=S.D9.length
 .have e:E2 S s.m=(4,ND S):=by unfold E2;rw[Χ K]
  rw[e];refine So ?_;intros;exact KX.a8 aF ak (.inl ⟨by dsimp only;omega,rfl,rfl⟩)
 refine So ?_;intros;refine GO.cL (F.at (Ο:=Nu s) (F.refl _)) ?_;refine GO.cL (F.at (Ο:=Oz x.π) (F.refl _)) ?_;refine GO.cr (DH (b:=b) (d:=S.D8) (x:=x) s hs.kd hs.Β (b2▸hc) hB D e1 b5 hs.K9 (b0▸h0)) ?_;rw[b2,b0];by_cases T:gC S.π S.now s.m
 case neg =>
  have e:E2 S s.m=(1,ND S):=by unfold E2;rw[Ν K,Χ T]
  rw[e,bB T];refine So ?_;intros;exact KX.a8 aF ak (.inl ⟨by dsimp only;omega,rfl,rfl⟩)
 have e:E2 S s.m=cR S.D8 S.Κ (fV S.π) (s.m.at (cT S)) (ND S) s.m.fe:=by unfold E2;rw[Ν K,Ν (λh=>h T)]
 rw[e,bN T];have hA:=WE.1 T;have d2:=mF T;have c1:s.m.fe=s.fe.map J3.m:=rfl;have b7:s.fe.length<=64:=by have:=T.2.2.2.1.2;rwa [c1,al] at this
 have e4:∀m∈s.fe,m.m.Β.length<=1000000:=λm hm=>by
  rcases (d2 m.m (by rw[c1];exact PB hm)).g.Β with q|q
  .rw[q];decide
  .have:=q.1.2;omega
 refine So ?_;intros;refine GO.cL (F.at (Ο:=stM s) (F.c7 (F.at (Ο:=Nu s) (F.refl _)))) ?_;refine GO.ca (Ae s b7 e4) ?_;rintro _ _⟨s',rfl,c4,rfl⟩;have b4:s'.fe.map J3.m=s.m.fe:=congrArg D6.fe c4;have e5:s'.fe.length=s.fe.length:=by have:=congrArg List.length b4;rwa [c1,al,al] at this
 have c6:s'.Δ=s.Δ:=congrArg D6.Δ c4;simp only[eK];refine So ?_;intros;refine GO.ef (Ef.c8 D5 h1.v (.inl rfl)) ae ?_;rintro _ _⟨cs,rfl,rfl⟩;refine So ?_;intros;refine GO.ef (Ef.c8 gm Q2 (.inl rfl)) ae ?_;rintro _ _⟨ct,rfl,rfl⟩;refine So ?_;intros;refine GO.ef (Ef.c8 gm h1.v (.inl rfl)) ae ?_;rintro _ _⟨ci,rfl,rfl⟩;refine So ?_;intros;refine GO.ef (Ef.c8 gm h1.v (.inl rfl)) ae ?_;rintro _ _⟨cr,rfl,rfl⟩;refine So ?_;intros;rename_i bc;have d5:S.D8*4294967296+(x.D9.length:Int)=cT S:=by unfold cT;rw[e6]
 rw[d5]
 have b1:(s'.at (cT S)).m=s.m.at (cT S):=by
  show D6.at s'.m (cT S)=_;rw[c4]
 have a5:S.Κ++(ND S).Κ=S.Κ:=aI _;have a6:UY x ⟨cs,ct,ci,cr,[],[],[],[],[],none,0,[],none,0⟩ S.Κ (ND S):=⟨λa i=>hF.ν a i,λi=>hF.id i,rfl,rfl,by rw[a5];exact hF.imp,by rw[a5];exact hF.ret⟩
 refine Α.loop (α:=Nat×S5×Wk) (λg=>g.1<=s'.fe.length/\UY x g.2.1 S.Κ g.2.2/\SY S.D8 S.Κ (k+C5 (s.m.fe.take g.1)) g.2.2/\g.2.2.Κ.length=g.1/\cR S.D8 S.Κ (fV S.π) (s.m.at (cT S)) (ND S) s.m.fe=cR S.D8 S.Κ (fV S.π) (s.m.at (cT S)) g.2.2 (s.m.fe.drop g.1))
  (λg=>[(0,av b),(4,.pointer none),(5,J 0),(6,av bc),(48,ah s'.fH s'.fe.length s'.iI),(49,J (s'.fe.length:Int)),(50,J (g.1:Int))])
  (λg=>G9 b bc (s'.at (cT S)) g.2.1 (E1 b S.D8 x (stM s'::Nu s'::stM s::Nu s::L))) (λg=>s'.fe.length - g.1) (0,⟨cs,ct,ci,cr,[],[],[],[],[],none,0,[],none,0⟩,ND S) ⟨aC _,a6,xj hS,rfl,rfl⟩ aD ?_ ?_
 .simp only[G9,E1,cV,cJ,M0.at,bu];refine(F.c8 ft 11 gX).trans ?_;refine(F.c8 (dJ .i64) 1 B7).trans ?_;refine(F.a8 (λp:(Int×Int)×h1=>G8 p.2)).trans ?_;refine(F.a8 (λp:Int×h1=>G8 p.2)).trans ?_;refine(F.a8 (λp:Int×h1=>G8 p.2)).trans ?_;refine(F.a8 Pm).trans ?_;exact ak
 rintro⟨i,z,W⟩ ⟨hi,hW,hO,d0,B⟩;dsimp only at hi hW hO d0 B ⊢;by_cases b9:i<s'.fe.length
 case neg =>
  have b6:s.m.fe.drop i=[]:=bU (by rw[<-b4,al];omega);rw[b6] at B;rw[B];simp only[G9,E1,cV,cJ];refine So ?_;intros;exact KX.a8 aF (F.refl _) (.inr ⟨rfl,bc,s'.at (cT S),z,rfl,⟨b1,hW⟩,rfl⟩)
 have d6:(i:Int).toNat=i:=D;have b3:s'.fe[i]!.m=s.m.fe[i]!:=by rw[<-b4];exact(sU J3.m b9).symm
 have b8:i<s.m.fe.length:=by rw[<-b4,al];exact b9
 have d1:i<s.fe.length:=D;have d4:s'.fe[i]!.m=s.fe[i]!.m:=b3.trans (sU J3.m d1);have b6:s.m.fe.drop i=s'.fe[i]!.m::s.m.fe.drop (i+1):=by rw[b3];exact ke b8
 have a7:s'.fe[i]!.m∈s.m.fe:=by rw[b3];exact bA b8
 have a2:=hA.2.2.2.2.1 s'.fe[i]!.m a7;have a3:=d2 s'.fe[i]!.m a7;have hK:C5 (s.m.fe.take (i+1))=C5 (s.m.fe.take i)+(s'.fe[i]!.m.Β.length+1):=by rw[IK b8,b3]
 have e8:=Mb s.m.fe (i+1);have d3:∀p∈s'.fe[i]!.m.Β,p.1<=9223372036854775807:=by rw[d4];exact hs.bd _ (bA d1)
 have e3:¬(s'.at (cT S)).Δ=5->s'.fe[i]!.m.Β=[]:=λh=>KR (n:=S.π.B5.length) (k:=s.m.Δ) hs.kd (λq=>h (c6.trans q)) a2;rw[b6] at B;have c3:cR S.D8 S.Κ (fV S.π) (s.m.at (cT S)) W (s'.fe[i]!.m::s.m.fe.drop (i+1))=if(cg S.D8 S.Κ (fV S.π) (s.m.at (cT S)) W s'.fe[i]!.m).1=0 then cR S.D8 S.Κ (fV S.π) (s.m.at (cT S)) (cg S.D8 S.Κ (fV S.π) (s.m.at (cT S)) W s'.fe[i]!.m).2 (s.m.fe.drop (i+1)) else((cg S.D8 S.Κ (fV S.π) (s.m.at (cT S)) W s'.fe[i]!.m).1,W):=rfl;rw[c3] at B;have e2:=vz (hl:=fV S.π) (s:=s.m.at (cT S)) (m:=s'.fe[i]!.m) a4 hO a3 D;have a9:=nx (hl:=fV S.π) (s:=s.m.at (cT S)) (m:=s'.fe[i]!.m) a4 hO.g a3.g D;have M:=EJ (L:=stM s'::Nu s'::stM s::Nu s::L) b bc S.D8 x (s'.at (cT S)) z s'.fe[i]! W S.Κ (k+C5 (s.m.fe.take i)) hF.Κ hW hO (show SI s'.Δ s'.fe[i]!.m by rw[c6];exact a3) D ⟨a2.1.1,by have h4:=a2.1.2;rw[<-b2] at h4;simpa [L1.m] using h4⟩ d3 (show PF s'.Δ by rw[c6];exact hs.kd) e3 ⟨a4,c5⟩ D D hT e0;rw[b1,c0] at M;have c2:(cg S.D8 S.Κ (fV S.π) (s.m.at (cT S)) W s'.fe[i]!.m).1=0->(cg S.D8 S.Κ (fV S.π) (s.m.at (cT S)) W s'.fe[i]!.m).2.Κ.length=W.Κ.length+1:=λh=>by rw[(a9 h).2,ay,aX]
 clear a9;generalize cg S.D8 S.Κ (fV S.π) (s.m.at (cT S)) W s'.fe[i]!.m=r at *;refine Α.cL (Γ:=ξ aL 3 s'.fe[i]!.pad s'.fe[i]!.m.Β::G9 b bc (s'.at (cT S)) z (E1 b S.D8 x (stM s'::Nu s'::stM s::Nu s::L))) (by simp only[G9,E1];exact(F.at (Ο:=Nu s') (Kp b9)).trans ak) ?_;simp only[G9,E1,cV,cJ,stM];refine So ?_;intros;rw[d6];refine GO.cL F.drop ?_;refine GO.ca (M) ?_;rintro _ _⟨z',rfl,e7,rfl⟩;by_cases hr:r.1=0
 .rw[Χ hr] at B;simp only[G9,E1,cV,cJ];refine So ?_;intros;refine⟨(i+1,z',r.2),⟨by dsimp only;omega,e7 hr,by dsimp only;rw[hK,<-dh,<-dh];exact e2 hr,by dsimp only;rw[c2 hr,d0],B⟩,by dsimp only;omega,?_,F.refl _⟩;dsimp only;rw[bC i];exact aD
 .rw[Ν hr] at B;rw[B];simp only[G9,E1,cV,cJ];refine So ?_;intros;exact KX.en (.inl ⟨hr,rfl,rfl⟩)
end
section
open Go.V
theorem EX{d:Int}{fl:List E3}{hl:Int->Bool}{s:D6}{N:Nat}{W:Wk}{m:A8}(K:W.Oi.length<=W.Κ.length)(T:W.Κ.length<=N)(h3:∀f∈W.Κ,f.made.length<=N):(cg d fl hl s W m).2.Oi.length<=(cg d fl hl s W m).2.Κ.length/\(cg d fl hl s W m).2.Κ.length<=W.Κ.length+1/\∀f∈(cg d fl hl s W m).2.Κ,f.made.length<=N:=by
 have hn:∀f∈W.Κ++[gF d fl.length hl s W m],f.made.length<=N:=λf hf=>by
  rcases J8 hf with h|h
  .exact h3 f h
  .rw[F6 h];show(li s W m).length<=N;grind [li]
 have U:(W.Κ++[gF d fl.length hl s W m]).length=W.Κ.length+1:=by rw[ay,aX]
 grind [cg]
def su{d:Int}{fl:List E3}{hl:Int->Bool}{s:D6}{N:Nat}:∀(Q:List A8) (W:Wk),W.Oi.length<=W.Κ.length->W.Κ.length+Q.length<=N->(∀f∈W.Κ,f.made.length<=N)->∀f∈(cR d fl hl s W Q).2.Κ,f.made.length<=N
 | [],_,_,_,h=>h
 | m::Q,W,K,T,h3=>by
  have e:cR d fl hl s W (m::Q)=if(cg d fl hl s W m).1=0 then cR d fl hl s (cg d fl hl s W m).2 Q else((cg d fl hl s W m).1,W):=rfl;rw[aK] at T;obtain⟨g1,g2,g3⟩:=EX (d:=d) (fl:=fl) (hl:=hl) (s:=s) (N:=N) (m:=m) K D h3;rw[e];split
  .exact su Q _ g1 D g3
  .exact h3
theorem oV{S:Ρ}{s:D6}(h:(E2 S s).1=0):E2 S s=cR S.D8 S.Κ (fV S.π) (s.at (cT S)) (ND S) s.fe:=by
 grind [E2]
def P5.made{d:Int}{c:B0}{S:Ρ}(h:P5 d c S):∀f∈S.Κ,f.made.length<=64:=by
 induction h with
 | zero=>intro f hf;cases hf
 | @post S s _ h0 ih =>
  have e1:bM S s=fC S s:=Χ h0;have hp:=jg h0;have U:=hp.2.2.2.1.2;rw[e1];intro f hf;rcases J8 (show f∈S.Κ++(E2 S s).2.Κ from hf) with q|q
  .exact ih f q
  .rw[oV h0] at q;exact su (N:=64) s.fe (ND S) (an _) (by show 0+_<=64;omega) (λf hf=>by cases hf) f q
