/- Lemmas. -/
import Derived.Test.YtlgpgjdggilkgaaGreatDoorEdat
set_option linter.all false
set_option maxHeartbeats 8000000
namespace Go.Proofs.YtlgpgjdggilkgaaGreatDoor
section
open Go.V
structure Sw where
 cs:Nat
 ct:Nat
 ci:Nat
 cr:Nat
 ξ:List ((Int×Int)×iI)
 iL:List (Int×Int)
 imp:List (Int×iI)
 ret:List (Int×iI)
 Μ:List O7
 C4:OA
 F3:Nat
 NW:List Int
 OG:OA
 OH:Nat
abbrev cW(b:Nat)(s:L9)(z:Sw):χ:=[ay b,K s.r,K s.Ζ,K s.Rt,K s.B,K s.K8,K s.Oi,ae s.gi s.gN.length s.iM,.map (some z.cs),.map (some z.ct),.map (some z.ci),.map (some z.cr),ae z.C4 z.Μ.length z.F3,ae z.OG z.NW.length z.OH]
abbrev G9(b bc:Nat)(s:L9)(z:Sw)(L:Ι):Ι :=
 obj bc V3 (cW b s z)::ew D6 iI.v z.cs z.ξ::ew gT Qz z.ct z.iL::ew gT iI.v z.ci z.imp::ew gT iI.v z.cr z.ret::μ fw 11 gZ z.C4 z.F3 z.Μ::μ (eU .i64) 1 C3 z.OG z.OH z.NW::η (λp:(Int×Int)×iI=>G8 p.2) z.ξ::η OZ z.Μ::η (λp:Int×iI=>G8 p.2) z.imp::η (λp:Int×iI=>G8 p.2) z.ret::L
def Nq{κ:Type}[DecidableEq κ](z x:List (κ×iI))(k:κ):iI:=(ε z k).getD (fM x k)
def vf{κ:Type}[DecidableEq κ]{z x:List (κ×iI)}(k:κ){L:Ι}:E (η (λp:κ×iI=>G8 p.2) z::η (λp:κ×iI=>G8 p.2) x::L) (G8 (Nq z x k)::η (λp:κ×iI=>G8 p.2) z::η (λp:κ×iI=>G8 p.2) x::L):=by
 unfold Nq;cases h:ε z k with
 | none=>exact(E.a8 (vZ k)).trans E.swap
 | some s=>exact E.d8 (f:=λp:κ×iI=>G8 p.2) (x:=(k,s)) (bR h)
def rJ{κ:Type}[DecidableEq κ]{m:List (κ×iI)}{k:κ}{s:iI}{L:Ι}:E (G8 s::η (λp:κ×iI=>G8 p.2) m::L) (η (λp:κ×iI=>G8 p.2) (ez m k s)::L) :=
 (E.j5 (f:=λp:κ×iI=>G8 p.2) (λp=>ua p.2) (x:=(k,s)) (l:=m)).trans (E.g9 (l':=ez m k s) tn)
def oD{κ:Type}[DecidableEq κ]{z x:List (κ×iI)}{k q:κ}{s:iI}:Nq (ez z k s) x q=if q=k then s else Nq z x q:=by
 unfold Nq;rw[cF];split<;>rfl
structure P7 (g:Int->iI) (l:π):Prop where
 ok:∀f,Sv (g f).D3
 cap:∀f,(g f).D3.length<=(g f).cap
 len:∀f,(g f).D3.length<=l.length
 ov:∀f t,a0 t->t.1=f->OV (g f).D3 t=OV (RO l f) t
def HZ{g:Int->iI}{l:π}(h:P7 g l)(T:∀y∈l,a0 y){p:iK}(hp:a0 p):(∃y∈(g p.1).D3,¬apart y p)↔∃y∈RO l p.1,RP p y:=by
 rw[<-Au (h.ok p.1).ok hp,h.ov p.1 p hp rfl,Au (λy U=>T y (Tr.1 U).1) hp];constructor
 .rintro⟨y,U,hn⟩;have:=(Tr.1 U).2
  refine⟨y,U,?_⟩;unfold apart at hn;unfold RP;omega
 .rintro⟨y,U,hn⟩;have:=(Tr.1 U).2
  refine⟨y,U,?_⟩;unfold RP at hn;unfold apart;omega
def Kq{set:π}(hs:Sv set){p:iK}(hp:a0 p):0<(TX [p] set).length↔∃y∈set,¬apart y p:=by
 rw[<-LF hs hp];have e:TX [p] set=(Pf (Oe set p)).foldl bF []:=by unfold TX;rw[Ji]
 rw[e]
 have hw:∀x∈Pf (Oe set p),1<=x.2.2:=λx M=>by
  obtain⟨q,hq,rfl⟩:=H8 M;have:=(FZ hs hp).1 q (List.mem_filter.1 hq).1
  unfold a0 at this;omega
 generalize Pf (Oe set p)=P at hw;cases P with
 | nil=>exact⟨λh=>iJ h ac,λh=>iJ rfl h⟩
 | cons x P =>
  have I:=hw x au;have M:bF [] x=[x]:=by unfold bF;rw[Ο D,Ο (λq=>q.1 rfl)];rfl
  have A:∀(P l:π),0<l.length->0<(P.foldl bF l).length:=by
   intro P;induction P with
   | nil=>intro l h;exact h
   | cons y P ih =>
    intro l h;refine ih _ ?_;unfold bF;split
    .exact h
    .split
     .rw[bU];exact h
     .rw[aA];omega
  refine⟨λ_ h=>(by cases h),λ_=>?_⟩;show 0<(P.foldl bF (bF [] x)).length;rw[M];exact A P [x] (by rw[bh];exact Nat.one_pos)
def Ia{g:Int->iI}{l:π}(h:P7 g l)(T:∀y∈l,a0 y){p:iK}(hp:a0 p)(hn:¬ ∃y∈(g p.1).D3,¬apart y p){ys:π}(U:gY QC ((g p.1).D3++[p]) ys){fJ : Int->iI}(I:(fJ p.1).D3=NM ys)(hc:(NM ys).length<=(fJ p.1).cap)(Q:∀f,f≠p.1->fJ f=g f):P7 fJ (l++[p]):=by
 have J:∀x∈(g p.1).D3++[p],a0 x:=λx M=>by
  rcases J4 M with q|q
  .exact(h.ok p.1).ok x q
  .rw[GO q];exact hp
 obtain⟨s1,s2,_,s4⟩:=xB U J;have ha:L5 ((g p.1).D3++[p]):=UR.2 ⟨xV (h.ok p.1).sl,λy hq=>Classical.byContradiction λΔ=>hn ⟨y,hq,Δ⟩⟩;have A:=h.len;refine⟨λf=>?_,λf=>?_,λf=>?_,λf t ht hf=>?_⟩
 .by_cases e:f=p.1
  .rw[e,I];exact s1
  .rw[Q f e];exact h.ok f
 .by_cases e:f=p.1
  .rw[e,I];exact hc
  .rw[Q f e];exact h.cap f
 .rw[aA,bh];by_cases e:f=p.1
  .rw[e,I];have:=A p.1
   rw[aA,bh] at s2;omega
  .rw[Q f e];have:=A f
   omega
 .rw[Iw];by_cases e:f=p.1
  .rw[e,I,s4 ha t ht,gg,jd,Ω rfl,gg,jd,h.ov p.1 t ht (hf.trans e)]
  .rw[Q f e,Ο (λq=>e q.symm)];exact h.ov f t ht hf
def HY:P7 (λ_=>⟨none,0,[]⟩) []:=⟨λ_=>⟨(λy h=>by cases h),.nil⟩,λ_=>ax _,λ_=>ax _,λ_ _ _ _=>rfl⟩
attribute [local irreducible] Β Y GP δ vi GF GE Z Ef C0 E CB GB V.Enters
def Dk{L R1 R2:Ι}{mz mx:Nat}{z x:List (Int×iI)}[A:Qg L mz Int iI gT iI.v z R1][J:Qg L mx Int iI gT iI.v x R2](f:Int) :
  Υ Λ 302 #[.map (some mz),.map (some mx),K f] L (F7 ((Nq z x f).v) L):=by
 refine Υ.bd ?_;refine ML ?_;intros;refine Y.ev (Z.a8 rfl rfl) ac ?_;cases h:@List.lookup _ _ instBEqOfDecidableEq f z with
 | some k =>
  simp only[fq,Option.getD_some,Option.isSome_some];refine ML ?_;intros;refine KX.a8 aC aj ⟨?_,rfl⟩;unfold Nq ε;rw[h];rfl
 | none =>
  simp only[io,Option.getD_none,Option.isSome_none];refine ML ?_;intros;refine Y.ev (Z.j6 rfl rfl) ac ?_;rw[vh];refine ML ?_;intros;refine KX.a8 aC aj ⟨?_,rfl⟩;unfold Nq ε;rw[h];rfl
end
section
open Go.V
attribute [local irreducible] Β Y GP δ vi GF GE Z Ef C0 E CB GB V.Enters
abbrev DO:=Yv [.ef 13,.ev 14]
def cm{φ ψ:Prop}(k:ψ)(h:Hid ψ->φ:=by intro k;(with_reducible apply Β.a8);first|refine Β.dr 71 7 DO (Hid.out k)):φ:=h ⟨k⟩
def QQ{φ ψ:Prop}(k:ψ)(h:Hid ψ->φ:=by intro k;(repeat (first|refine ab ?_|intro B8|refine cm ?_));(repeat revert B8);exact Hid.out k):φ:=h ⟨k⟩
def Fj{L:Ι}(b bc:Nat)(d:Int)(x:Od)(s:L9)(z:Sw)(l:π)(hm:P7 (Nq z.imp x.imp) l)(T:l.length<=2000)(d4:∀y∈l,a0 y)(m:J5)[hr:F5 L m.pad iK aK 3 m.m.Γ](hp:∀p∈m.m.Γ,a0 p)(hb:∀p∈m.m.Γ,p.1<=9223372036854775807)(e0:m.m.Γ.length<=2000) :
  Υ Λ 276 #[ay bc,bC (cq m)] (G9 b bc s z (E1 b d x L)) (λv Ε=>∃u,v=K (Rv d m.m.Γ l)/\(Rv d m.m.Γ l=0->P7 (Nq u x.imp) (l++m.m.Γ))/\Ε = G9 b bc s { z with imp:=u } (E1 b d x L)):=by
 obtain⟨⟨Ν,to,a1,mn,Γ⟩,pad,J3⟩:=m;dsimp only at hr hp hb e0 ⊢;refine Υ.bd (args:=[ay bc,bC (cq ⟨⟨Ν,to,a1,mn,Γ⟩,pad,J3⟩)]) ?_;simp only[cq,G9,cW,E1,cJ];refine QQ ?_;intros;rename_i b3;refine Β.loop (α:=Nat×List (Int×iI)) (λg=>g.1<=Γ.length/\P7 (Nq g.2 x.imp) (l++Γ.take g.1)/\Rv d Γ l=Rv d (Γ.drop g.1) (l++Γ.take g.1)) (λg=>[(0,ay bc),(12,ae pad Γ.length J3),(13,K Γ.length),(14,K (g.1:Int))]) (λg=>G9 b bc s { z with imp:=g.2 } (E1 b d x (L))) (λg=>Γ.length - g.1) (0,z.imp) ⟨aD _,by rw[bA,aJ];exact hm,by rw[bA,aJ];rfl⟩ aG (by(try simp only[G9,cW,E1,cJ]);exact aj) ?_;rintro⟨i,mp⟩ ⟨hi,a3,hg⟩;dsimp only at hi a3 hg ⊢;by_cases b1:i<Γ.length
 case neg =>
  rw[bV D,aN D] at hg;rw[aN D] at a3;have d2:Rv d Γ l=0:=hg;rw[d2];(try simp only[G9,cW,E1,cJ]);refine QQ ?_;intros;refine KX.a8 aC ?_ ⟨mp,rfl,λ_=>a3,rfl⟩;(try simp only[G9,cW,E1,cJ]);exact aj
 have d3:(i:Int).toNat=i:=bB i;have d5 : (i:Int).toNat<Γ.length:=D;have e1:Γ[(i:Int).toNat]! = Γ[i]!:=by rw[d3]
 have b5:l++Γ.take (i+1)=l++Γ.take i++[Γ[(i:Int).toNat]!]:=by rw[e1,aB b1,E7 b1,aF]
 have d6:(l++Γ.take i).length<=4000:=by rw[aA,aP];omega
 have b0:∀y∈l++Γ.take i,a0 y:=λy U=>by
  rcases J4 U with q|q
  .exact d4 y q
  .exact hp y (cI q)
 have c6:=hb _ (bI b1);have a4:=hp _ (bI b1);rw[<-e1] at c6 a4;rw[ka b1,qO,<-e1] at hg;rw[<-b5] at hg;have b9:Rv d Γ l≠0->(Rv d Γ l=0->P7 (Nq mp x.imp) (l++Γ)):=λh q=>iJ q h;obtain⟨p,d0⟩:∃p,Γ[(i:Int).toNat]! = p:=⟨_,rfl⟩;rw[d0] at c6 a4 hg b5;clear e1;have c0:=a4;unfold a0 at c0;have a9:=HZ a3 b0 a4;(try simp only[G9,cW,E1,cJ]);refine QQ ?_;intros;rw[d0];simp only[aK];refine QQ ?_;intros;by_cases c1:p.1 / 4294967296=d
 .rw[Ω (.inl c1)] at hg;rw[hg] at b9 ⊢;refine QQ ?_;intros;exact KX.a8 aC (by(try simp only[G9,cW,E1,cJ]);exact aj) ⟨mp,rfl,λh=>iJ h ac,rfl⟩
 by_cases c2:11<p.1 / 4294967296
 .rw[Ω (.inr c2)] at hg;rw[hg] at b9 ⊢;refine QQ ?_;intros;exact KX.a8 aC (by(try simp only[G9,cW,E1,cJ]);exact aj) ⟨mp,rfl,λh=>iJ h ac,rfl⟩
 rw[Ο (λq=>q.elim c1 c2)] at hg;refine QQ ?_;intros;refine δ.cr (Dk (z:=mp) (x:=x.imp) p.1) ?_;have b4:=a3.ok p.1;have a7:=a3.cap p.1;have e3:=a3.len p.1;have a6:=λ (h:¬ ∃y∈(Nq mp x.imp p.1).D3,¬apart y p) (ys:π) (U:gY QC ((Nq mp x.imp p.1).D3++[p]) ys) (s' : iI) (I:s'.D3=NM ys) (Q:(NM ys).length<=s'.cap)=>Ia (fJ:=Nq (ez mp p.1 s') x.imp) a3 b0 a4 h U (by rw[oD,Ω rfl,I]) (by rw[oD,Ω rfl];exact Q) (λf e=>by rw[oD,Ο e]);have b2:=λο:Ι=>vf (z:=mp) (x:=x.imp) p.1 (L:=ο);generalize Nq mp x.imp p.1=sk at *;obtain⟨K0,P3,A⟩:=sk;dsimp only at b4 a7 e3 a6 a9
 have d1:∀y∈A++[p],a0 y:=λy U=>by
  rcases J4 U with q|q
  .exact b4.ok y q
  .rw[GO q];exact a4
 simp only[iI.v];refine QQ ?_;intros;rename_i b6 bl;refine Y.cM (Ε:=[τ aK 3 (some ⟨bl,0,none⟩) [p],τ aK 3 K0 A]++(τ aK 3 K0 A::G9 b bc s { z with imp:=mp } (E1 b d x (obj b6 I5 (aK p)::L)))) ?_ ?_
 .refine(E.at (Φ:=obj bl I5 [K p.1,K p.2.1,K p.2.2]) (E.d9 (Η:=aK) (sz:=3) (G:=[p]) (n:=1) rfl rfl (λ_ _=>rfl) ac)).trans (E.NZ.trans ?_);refine(E.at (Φ:=η (λp:Int×iI=>G8 p.2) mp) (E.refl _)).trans ?_;refine(E.a8 (E.at (Φ:=η (λp:Int×iI=>G8 p.2) x.imp) (E.refl _))).trans ?_;refine(b2 _).trans ?_;refine E.trans (show E (G8 ⟨K0,P3,A⟩::_) (τ aK 3 K0 A::_) from E.refl _) ?_;refine(E.dup (cT _ _ _ _).QM).trans ?_;simp only[G9,cW,E1,cJ,aK,aq,av];exact aj
 simp only[aq,av];(first|refine Y.ef (Ef.call (Hf (some ⟨bl,0,none⟩) 1 [p] K0 P3 A (by rw[bh];decide) D (λy U=>by rw[GO U];exact a4) b4) rfl fT) ac ?_);rintro _ _⟨_,⟨e4,e6,e5,e7,rfl,rfl⟩,hL⟩;simp only[aq,av] at hL;subst hL;have c4:=Kq b4 a4;generalize hpi:(TX [p] A).length=pn at c4;refine QQ ?_;intros;by_cases c3:∃y∈A,¬apart y p
 .have e2:=c4.2 c3;rw[Ω (a9.1 c3)] at hg;rw[hg] at b9 ⊢;(try simp only[G9,cW,E1,cJ]);refine QQ ?_;intros;exact KX.a8 aC (by(try simp only[G9,cW,E1,cJ]);exact aj) ⟨mp,rfl,λh=>iJ h ac,rfl⟩
 have e2:¬0<pn:=λq=>c3 (c4.1 q);rw[Ο (λq=>c3 (a9.2 q))] at hg;repeat first|refine Β.sn 11 ?_|refine dz ?_|intro _|refine cm ?_
 refine Β.cM (Ε:=Pt aK 3 I5 K0 A.length A::obj b6 I5 [K p.1,K p.2.1,K p.2.2]::G9 b bc s { z with imp:=mp } (E1 b d x (L))) ?_ ?_
 .refine(E.at (Φ:=τ aK 3 K0 A) (E.o6 (ζ:=I5) (by simp only[maxLen];omega))).trans ?_;(try simp only[G9,cW,E1,cJ,aK]);exact aj
 .skip;simp only[G9,cW,E1,cJ];refine Β.f7 mixed Θ ?_;refine GF.MP (i:=0) rfl Θ (Z.move rfl) ac ?_;refine GF.MP (i:=1) rfl Θ (Z.nilCheck rfl) ac ?_;refine GF.MP (i:=2) rfl Θ (by first|exact Z.fieldAddr rfl|exact Z.f8 rfl) ac ?_;refine GF.NV (i:=3) rfl Θ (by first|exact Z.d8 rfl rfl|exact Z.c9 rfl aY|exact Z.c8 rfl rfl|exact Z.d9 rfl D|exact Z.f7 rfl D ac rfl) ac ?_;refine GF.MP (i:=4) rfl Θ (by first|exact Z.fieldAddr rfl|exact Z.f8 rfl) ac ?_;refine GF.NV (i:=5) rfl Θ (by first|exact Z.d8 rfl rfl|exact Z.c9 rfl aY|exact Z.c8 rfl rfl|exact Z.d9 rfl D|exact Z.f7 rfl D ac rfl) ac ?_;refine GF.MP (i:=6) rfl Θ (Z.move rfl) ac ?_;refine GF.NV (i:=8) rfl Θ (by first|exact Z.d8 rfl rfl|exact Z.c9 rfl aY|exact Z.c8 rfl rfl|exact Z.d9 rfl D|exact Z.f7 rfl D ac rfl) ac ?_;refine GF.a8 7 9 Θ ?_ ?_
  .refine GE.ef rfl (Ef.d8 (rb K0 A.length P3 a7) rfl) ac ?_;rintro _ _⟨rfl,rfl⟩;refine⟨(by intro pe hp;simp only[fL,aH,or_false] at hp;rcases hp with rfl|rfl|rfl<;>first|exact Z.d8 rfl rfl|exact Z.c9 rfl aY|exact Z.c8 rfl rfl),?_⟩;refine GF.y5 [.ef 9,.ef 10,.ef 11,.ef 12] Θ rfl ?_;refine QQ ?_;intros;refine δ.ef (Ef.l0 (Η:=aK) (e:=p) rfl rfl rfl rfl rfl aY (fY _) D D) ac ?_;rintro _ _⟨b7,a5,rfl,rfl⟩;refine QQ ?_;intros;refine δ.ca (qs b7 (A++[p]).length a5 (A++[p]) rfl (by rw[aA,bh];omega) d1) ?_;rintro _ _⟨a2,J,ys,rfl,c5,rfl⟩;refine QQ ?_;intros;refine δ.Vv (mS (ad:=a2) (cap:=J) (G:=NM ys) (Η:=aK) (sz:=3) (ζ:=I5)) ?_;rintro⟨b8,_⟩;refine δ.No (Ef.d9 (Η:=iI.v) (e:=(⟨a2,J,NM ys⟩:iI)) rfl rfl rfl rfl) ?_;rintro _ _⟨rfl,rfl⟩;refine QQ ?_;intros;refine⟨(i+1,ez mp p.1 ⟨a2,J,NM ys⟩),⟨by dsimp only;omega,by dsimp only;rw[b5];exact a6 c3 ys c5 ⟨a2,J,NM ys⟩ rfl b8,hg⟩,by dsimp only;omega,by dsimp only;rw[bJ i];exact aG,?_⟩;refine(E.RI a2).trans ?_;refine(E.at (Φ:=η (λp:Int×iI=>G8 p.2) mp) (E.refl _)).trans ?_;refine(E.at (Φ:=τ aK 3 a2 (NM ys)) (rJ (s:=⟨a2,J,NM ys⟩) (k:=p.1))).trans ?_;simp only[G9,cW,E1,cJ];exact aj
  .refine GE.ef rfl (Ef.lit rfl rfl ac rfl) ac ?_;rintro _ _⟨bm,rfl,rfl⟩;refine⟨(by intro pe hp;simp only[fL,aH,or_false] at hp;rcases hp with rfl|rfl|rfl<;>first|exact Z.d8 rfl rfl|exact Z.c9 rfl aY|exact Z.c8 rfl rfl),?_⟩;refine GF.y5 [.ef 7,.ef 10,.ef 11,.ef 12] Θ rfl ?_;refine QQ ?_;intros;refine δ.cr (rb K0 A.length P3 a7) ?_;refine QQ ?_;intros;refine δ.ef (Ef.l0 (Η:=aK) (e:=p) rfl rfl rfl rfl rfl aY (fY _) D D) ac ?_;rintro _ _⟨b7,a5,rfl,rfl⟩;refine QQ ?_;intros;refine δ.ca (qs b7 (A++[p]).length a5 (A++[p]) rfl (by rw[aA,bh];omega) d1) ?_;rintro _ _⟨a2,J,ys,rfl,c5,rfl⟩;refine QQ ?_;intros;refine δ.Vv (mS (ad:=a2) (cap:=J) (G:=NM ys) (Η:=aK) (sz:=3) (ζ:=I5)) ?_;rintro⟨b8,_⟩;refine δ.No (Ef.d9 (Η:=iI.v) (e:=(⟨a2,J,NM ys⟩:iI)) rfl rfl rfl rfl) ?_;rintro _ _⟨rfl,rfl⟩;refine QQ ?_;intros;refine⟨(i+1,ez mp p.1 ⟨a2,J,NM ys⟩),⟨by dsimp only;omega,by dsimp only;rw[b5];exact a6 c3 ys c5 ⟨a2,J,NM ys⟩ rfl b8,hg⟩,by dsimp only;omega,by dsimp only;rw[bJ i];exact aG,?_⟩;refine(E.RI a2).trans ?_;refine(E.at (Φ:=η (λp:Int×iI=>G8 p.2) mp) (E.refl _)).trans ?_;refine(E.at (Φ:=τ aK 3 a2 (NM ys)) (rJ (s:=⟨a2,J,NM ys⟩) (k:=p.1))).trans ?_;simp only[G9,cW,E1,cJ];exact aj
abbrev AZ:=Yu [.ev 10]
abbrev AY:=Yu []
def Rj{φ ψ:Prop}(k:ψ)(h:Hid ψ->φ:=by intro k;(repeat (first|refine ab ?_|intro B8|refine Β.dr 33 2 AZ ?_|refine Β.dr 33 5 AY ?_));(repeat revert B8);exact Hid.out k):φ:=h ⟨k⟩
def rW{L R1 R2 R3 R4:Ι}{b bc:Nat}{d:Int}{x:Od}{s:L9}{z:Sw}[A:Pq L b SR (cJ d x) R1][J:Pq L bc V3 (cW b s z) R2][a2:Qg L z.cs (Int×Int) iI D6 iI.v z.ξ R3][a3:Qg L x.O (Int×Int) iI D6 iI.v x.ξ R4](a i:Int) :
  Υ Λ 194 #[ay bc,K a,K i] L (F7 ((Nq z.ξ x.ξ (a,i)).v) L):=by
 refine Υ.bd ?_;refine Rj ?_;intros;refine δ.NV (Z.a8 rfl rfl) ac ?_;cases h:@List.lookup _ _ instBEqOfDecidableEq (a,i) z.ξ with
 | some k =>
  simp only[fq,Option.getD_some,Option.isSome_some];refine Rj ?_;intros;refine KX.a8 aC aj ⟨?_,rfl⟩;unfold Nq ε;rw[h];rfl
 | none =>
  simp only[io,Option.getD_none,Option.isSome_none];refine Rj ?_;intros;refine δ.NV (Z.j6 rfl rfl) ac ?_;rw[vh];refine Rj ?_;intros;refine KX.a8 aC aj ⟨?_,rfl⟩;unfold Nq ε;rw[h];rfl
structure Zf (x:Od) (z:Sw) (m:B1):Prop where
 a1:0<=m.a1/\m.a1<x.υ.B7.length
 n:0<=m.n/\m.n<=1099511627776
 pv:ir m.Γ
 pa:L5 m.Γ
 sv:ir (Nq z.ξ x.ξ (m.Ν,m.a1)).D3
 sa:L5 (Nq z.ξ x.ξ (m.Ν,m.a1)).D3
def nC(sh:π)(m:B1):Prop:=if m.Γ=[] then aW sh<m.n else ¬kC m.Γ sh
def xq(mixed:Bool)(sh:π)(m:B1):π:=if m.Γ=[] then nc mixed sh m.n else m.Γ
def Fw(mixed:Bool)(sh:π)(m:B1):π:=if m.Γ=[] then jF mixed sh m.n else jg sh m.Γ
abbrev AX:=Yv [.ev 13,.ev 14,.ev 15,.ef 16,.ev 17,.ev 18,.ev 19,.ev 20,.ev 21,.ev 22,.ev 23]
abbrev AW:=Ys [.ef 6]
abbrev yz:=Yt [.ef 8,.ef 9]
def Rn{φ ψ:Prop}(k:ψ)(h:Hid ψ->φ:=by intro k;(repeat (first|refine ab ?_|intro B8|refine Β.dr 73 4 AX ?_|refine Β.dr 73 7 AW ?_|refine Β.dr 73 11 yz ?_));(repeat revert B8);exact Hid.out k):φ:=h ⟨k⟩
def vd{L:Ι}(b bc:Nat)(d:Int)(x:Od)(s:L9)(z:Sw)(m:J5)(h:Zf x z m.m)(hT:TO (cX x m.m.a1))(b8:x.υ.B7.length<=64)(a9:m.m.Γ=[]) :
  Υ Λ 275 #[ay bc,bC (cq m)] (τ aK 3 m.pad m.m.Γ::G9 b bc s z (E1 b d x L)) (λv Ε =>
   (nC (Nq z.ξ x.ξ (m.m.Ν,m.m.a1)).D3 m.m/\v=.tuple #[ae none 0 0,K 10]/\Ε = G9 b bc s z (E1 b d x L)) \/
   (¬nC (Nq z.ξ x.ξ (m.m.Ν,m.m.a1)).D3 m.m/\∃pad J3 sk,v=.tuple #[ae pad (xq (cX x m.m.a1) (Nq z.ξ x.ξ (m.m.Ν,m.m.a1)).D3 m.m).length J3,K 0]/\sk.D3=Fw (cX x m.m.a1) (Nq z.ξ x.ξ (m.m.Ν,m.m.a1)).D3 m.m /\
    Ε = τ aK 3 pad (xq (cX x m.m.a1) (Nq z.ξ x.ξ (m.m.Ν,m.m.a1)).D3 m.m)::G9 b bc s { z with ξ:=ez z.ξ (m.m.Ν,m.m.a1) sk } (E1 b d x L))):=by
 obtain⟨⟨b2,b4⟩,⟨a6,a7⟩,b0,b5,a4,b1⟩:=h;have b6:=b0.2;obtain⟨⟨Ν,to,a1,mn,Γ⟩,J,a2⟩:=m;dsimp only at b2 b4 a6 a7 b0 b5 a4 b1 b6 hT a9 ⊢;refine Υ.bd (args:=[ay bc,bC (cq ⟨⟨Ν,to,a1,mn,Γ⟩,J,a2⟩)]) ?_;refine Β.cM (Ε:=G8 (Nq z.ξ x.ξ (Ν,a1))::τ dG 7 x.υ.I6 x.υ.B7::τ aK 3 J Γ::G9 b bc s z (E1 b d x L)) ?_ ?_
 .simp only[G9,E1];refine(E.at (Φ:=Oc x.υ) V0).trans ?_;refine(E.at (Φ:=η (λp:(Int×Int)×iI=>G8 p.2) z.ξ) (E.refl _)).trans ?_;refine(E.a8 (E.at (Φ:=η (λp:(Int×Int)×iI=>G8 p.2) x.ξ) (E.refl _))).trans ?_;refine(vf (Ν,a1)).trans ?_;exact aj
 simp only[G9,E1,cq];refine Rn ?_;intros;rename_i b3;refine Y.cr (rW (b:=b) (d:=d) (x:=x) (s:=s) (z:=z) Ν a1) ?_;generalize hsk:Nq z.ξ x.ξ (Ν,a1)=sk at *;obtain⟨K0,P3,A⟩:=sk;dsimp only at a4 b1 ⊢;have b7:=a4.2;simp only[iI.v];subst a9;have eB:nC A ⟨Ν,to,a1,mn,[]⟩↔aW A<mn:=by unfold nC;rw[Ω rfl]
 have eP:xq (cX x a1) A ⟨Ν,to,a1,mn,[]⟩=nc (cX x a1) A mn:=Ω rfl;have eL:Fw (cX x a1) A ⟨Ν,to,a1,mn,[]⟩=jF (cX x a1) A mn:=Ω rfl;rw[eB,eP,eL];refine Rn ?_;intros;refine δ.cM (E.at (Φ:=G8 ⟨K0,P3,A⟩) (E.refl _)) ?_;refine δ.ca (hT.tri _ K0 P3 A mn b7 a4.1 a6 a7) ?_;rintro _ _ (⟨I,rfl,rfl⟩|⟨I,a5,c1,a3,c2,rfl,rfl⟩)
 .refine Rn ?_;intros;exact KX.en (.inl ⟨I,rfl,rfl⟩)
 .refine Rn ?_;intros;refine δ.No (Ef.d9 (Η:=iI.v) (e:=(⟨a3,c2,jF (cX x a1) A mn⟩:iI)) rfl rfl rfl rfl) ?_;rintro _ _ rfl;refine Rn ?_;intros;refine KX.a8 aC ?_ (.inr ⟨D,a5,c1,⟨a3,c2,jF (cX x a1) A mn⟩,rfl,rfl,rfl⟩);refine(E.RI a5).trans ((E.RI a3).trans ?_);refine(E.at (Φ:=η (λp:(Int×Int)×iI=>G8 p.2) z.ξ) (E.refl _)).trans ?_;refine(E.at (Φ:=G8 ⟨a3,c2,jF (cX x a1) A mn⟩) (rJ (k:=(Ν,a1)))).trans ?_;exact aj
structure Us (x:Od) (z:Sw) (fl:List E3) (W:Wk):Prop where
 ξ:∀a i,(Nq z.ξ x.ξ (a,i)).D3=W.ξ a i
 iL:∀i,(ε z.iL i).getD ((ε x.iL i).getD 0)=W.iL i
 Μ:z.Μ.map O7.m=W.Μ
 NW:z.NW=W.NW
 imp:P7 (Nq z.imp x.imp) (dm (fl++W.Μ))
 ret:P7 (Nq z.ret x.ret) (jK (fl++W.Μ))
structure Xr (x:Od) (fl:List E3) (W:Wk) (s:D7) (m:B1) (hy:Int->Bool) (ξ:List ((Int×Int)×iI)) (imp ret:List (Int×iI)):Prop where
 ξ:∀a i,(Nq ξ x.ξ (a,i)).D3=Np hy W m a i
 imp:P7 (Nq imp x.imp) (dm (fl++W.Μ)++Uq s m)
 ret:P7 (Nq ret x.ret) (jK (fl++W.Μ)++Ur s m)
def Ln{d:Int}{fl:List E3}{s:D7}{W:Wk}{m:B1}(h:¬m.Ν=0):NL d fl s W m≠0↔nC (W.ξ m.Ν m.a1) m:=by
 unfold NL nC;rw[Ο h];split
 .split
  .exact⟨λ_=>by assumption,λ_=>by decide⟩
  .exact⟨λq=>iJ rfl q,λq=>by contradiction⟩
 .split
  .exact⟨λq=>iJ rfl q,λq=>by contradiction⟩
  .exact⟨λ_=>by assumption,λ_=>by decide⟩
def HK{d:Int}{fl:List E3}{s:D7}{W:Wk}{m:B1}(h:¬m.Ν=0)(hb:nC (W.ξ m.Ν m.a1) m):NL d fl s W m=10:=by
 unfold nC at hb;unfold NL;rw[Ο h];split
 .rename_i hp;rw[Ω hp] at hb;rw[Ω hb]
 .rename_i hp;rw[Ο hp] at hb;rw[Ο hb]
abbrev AV:List K3:=[.ev 0,.ev 1,.ev 3,.ev 4,.ef 2,.ef 5,.ev 6,.ev 7]
abbrev AU:List K3:=[.ev 0,.ev 1,.ev 3,.ev 4,.ef 2,.ef 5,.ev 6,.ev 7]
def Rs{φ ψ:Prop}(k:ψ)(h:Hid ψ->φ:=by intro k;(repeat (first|refine ab ?_|intro B8|refine Β.dr 35 5 AV ?_|refine Β.dr 35 7 AU ?_));(repeat revert B8);exact Hid.out k):φ:=h ⟨k⟩
def Dn{L:Ι}(b bc:Nat)(d:Int)(x:Od)(s:L9)(z:Sw)(m:J5)(W:Wk)(fl:List E3)(k:Nat)(d0:x.Μ.map O7.m=fl)(hW:Us x z fl W)(hA:Ss d fl k W)(hm:Sb s.Ζ m.m)(hk:k+m.m.Γ.length<=2000)(b4:0<=m.m.a1/\m.m.a1<x.υ.B7.length)(hb:∀p∈m.m.Γ,p.1<=9223372036854775807)(c3:Pe s.Ζ)(b6:¬s.Ζ=5->m.m.Γ=[])(hT:∀mx,TO mx)(c0:x.υ.B7.length<=64) :
  Υ Λ 193 #[ay bc,bC (cq m)] (τ aK 3 m.pad m.m.Γ::G9 b bc s z (E1 b d x L)) (λv Ε =>
   (NL d (fl++W.Μ) s.m W m.m≠0/\∃pd n c z',v=.tuple #[ae pd n c,K (NL d (fl++W.Μ) s.m W m.m)]/\Ε = G9 b bc s z' (E1 b d x L)) \/
   (NL d (fl++W.Μ) s.m W m.m=0/\∃pad J3 a7 A a6,v=.tuple #[ae pad (Pw (cX x) s.m W m.m).length J3,K 0]/\Xr x fl W s.m m.m (cX x) a7 A a6 /\
    Ε = τ aK 3 pad (Pw (cX x) s.m W m.m)::G9 b bc s { z with ξ:=a7,imp:=A,ret:=a6 } (E1 b d x L))):=by
 have a3:=hm.g.D3;have c2:=hA.il;have b0:=GH hA.fa;have a4:=hW.ξ m.m.Ν m.m.a1;obtain⟨⟨Ν,to,a1,mn,Γ⟩,a2,J⟩:=m;have b1:=hm.g.n;dsimp only at hm hk b4 hb a3 a4 b1 b6 ⊢;refine Υ.bd (args:=[ay bc,bC (cq ⟨⟨Ν,to,a1,mn,Γ⟩,a2,J⟩)]) ?_;by_cases h0:Ν=0
 .subst h0;have a5:Np (cX x) W ⟨0,to,a1,mn,Γ⟩=W.ξ:=by unfold Np;rw[Ω rfl]
  have eS:s.m.Ζ=s.Ζ:=rfl;by_cases h5:s.Ζ=5
  .have eE:NL d (fl++W.Μ) s.m W ⟨0,to,a1,mn,Γ⟩=TR d (fl++W.Μ) Γ:=by unfold NL;rw[Ω rfl,Ω (show s.m.Ζ=5 from h5)]
   have eP:Pw (cX x) s.m W ⟨0,to,a1,mn,Γ⟩=Γ:=by unfold Pw;rw[Ω rfl,Ω (.inl h5)]
   have eI:Uq s.m ⟨0,to,a1,mn,Γ⟩=Γ:=Ω h5;have eR:Ur s.m ⟨0,to,a1,mn,Γ⟩=[]:=Ο D;have c4:=hm.st (.inl h5);have b9:∀A,P7 (Nq A x.imp) (dm (fl++W.Μ)++Γ)->Xr x fl W s.m ⟨0,to,a1,mn,Γ⟩ (cX x) z.ξ A z.ret:=λA hi=>⟨λa i=>by rw[a5];exact hW.ξ a i,by rw[eI];exact hi,by rw[eR,aJ];exact hW.ret⟩;rw[eE,eP,<-KH hA.fa a3 c4.2.1];simp only[G9,E1,cq];refine Rs ?_;intros;rename_i b3;refine δ.ca (ju a2 Γ.length J Γ rfl D) ?_;rintro _ _⟨a9,c1,rfl,rfl⟩;refine Rs ?_;intros;refine δ.cM (Ε:=G9 b bc s z (E1 b d x (τ aK 3 a2 Γ::μ aK 3 I5 a9 c1 Γ::obj b3 OC [K 0,K to,K a1,K mn,ae a2 Γ.length J]::L))) (by simp only[G9,E1];exact aj) ?_;refine δ.ca (Fj b bc d x s z (dm (fl++W.Μ)) hW.imp D b0 ⟨⟨0,to,a1,mn,Γ⟩,a2,J⟩ a3 hb oT) ?_;rintro _ _⟨A,rfl,b2,rfl⟩;dsimp only at b2 ⊢;simp only[G9,E1];by_cases he:Rv d Γ (dm (fl++W.Μ))=0
   .rw[he];refine Rs ?_;intros;refine KX.a8 aC ?_ (.inr ⟨rfl,a9,c1,z.ξ,A,z.ret,rfl,b9 A (b2 he),rfl⟩);refine(E.RI a9).trans ?_;exact aj
   .refine Rs ?_;intros;exact KX.a8 aC (by simp only[G9,E1];exact aj) (.inl ⟨he,a9,Γ.length,c1,{ z with imp:=A },rfl,rfl⟩)
  have b8:¬s.Ζ=9:=by unfold Pe at c3;omega
  have eE:NL d (fl++W.Μ) s.m W ⟨0,to,a1,mn,Γ⟩=0:=by unfold NL;rw[Ω rfl,Ο (show ¬s.m.Ζ=5 from h5),Ο (show ¬s.m.Ζ=9 from b8)]
  have eP:Pw (cX x) s.m W ⟨0,to,a1,mn,Γ⟩=[]:=by unfold Pw;rw[Ω rfl,Ο D]
  have eI:Uq s.m ⟨0,to,a1,mn,Γ⟩=[]:=Ο h5;have eR:Ur s.m ⟨0,to,a1,mn,Γ⟩=[]:=Ο D;simp only[G9,E1,cq];rw[eE,eP];refine Rs ?_;intros;refine KX.a8 aC ?_ (.inr ⟨rfl,none,0,z.ξ,z.imp,z.ret,rfl,⟨λa i=>by rw[a5];exact hW.ξ a i,by rw[eI,aJ];exact hW.imp,by rw[eR,aJ];exact hW.ret⟩,rfl⟩);refine E.trans ?_ (E.f7 aK 3 none);exact aj
 have eI:Uq s.m ⟨Ν,to,a1,mn,Γ⟩=[]:=Ο (λq=>h0 (hm.imp q));have eR:Ur s.m ⟨Ν,to,a1,mn,Γ⟩=[]:=Ο (λq=>h0 q.2);have hG:=hA.g.ξ Ν a1;have c6:=hG.len;have b5:Γ=[]:=b6 λq=>h0 (hm.imp q);have b7:ir Γ/\L5 Γ:=by rw[b5];exact⟨⟨(λx M=>by cases M),by decide⟩,List.Pairwise.nil⟩
 refine Rs ?_;intros;refine Y.cM E.drop ?_;refine Y.ca (vd b bc d x s z ⟨⟨Ν,to,a1,mn,Γ⟩,a2,J⟩ ⟨b4,⟨by have:=b1.1;dsimp only;omega,b1.2⟩,b7.1,b7.2,by rw[a4];exact⟨hG.D3,D⟩,by rw[a4];exact hG.TS⟩ (hT _) c0 b5) ?_;dsimp only;rw[a4];rintro _ _ (⟨I,rfl,rfl⟩|⟨I,pad,J3,sk,rfl,c5,rfl⟩)
 .have e:=HK (d:=d) (fl:=fl++W.Μ) (s:=s.m) (W:=W) (m:=⟨Ν,to,a1,mn,Γ⟩) h0 I;rw[e];refine Rs ?_;intros;exact KX.a8 aC (E.refl _) (.inl ⟨by decide,none,0,0,z,rfl,rfl⟩)
 .have eE:NL d (fl++W.Μ) s.m W ⟨Ν,to,a1,mn,Γ⟩=0:=Classical.byContradiction λq=>I ((Ln h0).1 q);have eP:Pw (cX x) s.m W ⟨Ν,to,a1,mn,Γ⟩=xq (cX x a1) (W.ξ Ν a1) ⟨Ν,to,a1,mn,Γ⟩:=by unfold Pw;rw[Ο h0];rfl
  rw[eE,eP];refine Rs ?_;intros;refine KX.a8 aC (E.refl _) (.inr ⟨rfl,pad,J3,ez z.ξ (Ν,a1) sk,z.imp,z.ret,rfl,⟨?_,by rw[eI,aJ];exact hW.imp,by rw[eR,aJ];exact hW.ret⟩,rfl⟩);intro a i;rw[oD];unfold Np PS;rw[Ο h0];by_cases hq:a=Ν/\i=a1
  .obtain⟨rfl,rfl⟩:=hq;rw[Ω rfl,Ω ⟨rfl,rfl⟩,c5];rfl
  .rw[Ο (λh=>hq (by simpa using h)),Ο hq];exact hW.ξ a i
