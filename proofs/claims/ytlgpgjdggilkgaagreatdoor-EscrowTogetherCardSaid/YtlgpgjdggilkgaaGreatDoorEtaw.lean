/- Lemmas. -/
import Derived.Test.YtlgpgjdggilkgaaGreatDoorEtav
set_option linter.all false
set_option maxHeartbeats 4000000
namespace Go.Proofs.YtlgpgjdggilkgaaGreatDoor
section
open Go.V
def sq{κ α:Type}[DecidableEq κ]{q:κ×α}:∀{n m:List (κ×α)},q∈ij m n->q∈m\/q∈n
 | [],_,h=>.inl h
 | p::n,m,h=>by
  rcases sq (n:=n) (m:=cZ m p.1 p.2) h with K|K
  .rcases Nj (tn q K) with T|T
   .exact .inr (by rw[T];exact aA)
   .exact .inl T
  .exact .inr (az _ K)
def xM{m z x:List (Int×h1)}(h:∀k,ζ m k=(ζ z k).or (ζ x k)):fJ m=NK z x:=by
 funext k;unfold fJ NK;rw[h k];cases ζ z k<;>rfl
def tw{k:Nat}{S:Ρ}{s:D6}(hS:SZ k S)(hk:k+C5 s.fe<=2000)(h:(E2 S s).1=0):S.D9.length<65536/\gC S.π S.now s/\(E2 S s).2.Κ.length=s.fe.length:=by
 have T:=jg h;have e:=oV h;have h3:=h;rw[e] at h3;have h4:=(qV hS.g.D8.1 (xj hS).g (λm hm=>(mF T m hm).g) hk h3).2;rw[e];refine⟨Classical.byContradiction λq=>?_,T,?_⟩
 .unfold E2 at h;rw[Χ D] at h;exact hD (show(4:Int)=0 from h) ae
 .rw[h4];show 0+s.fe.length=_;omega
attribute [local irreducible] Α GO GP δ ms GF GE Ev Ef C0 F CB GB V.Enters
def sC(Μ s:Nat)(m n:List (Int×h1)) :
  Τ Θ 78 #[.map (some Μ),.map (some s)] [cS gm h1.v Μ m,cS gm h1.v s n] (λ_ Γ=>∃m',((∀k,ζ m' k=(ζ n k).or (ζ m k))/\∀q∈m',q∈m\/q∈n)/\Γ = [cS gm h1.v Μ m']):=by
 refine Τ.bd ?_;refine Α.cL F.swap ?_;refine Α.c8 (eO (b:=s) (kv:=gm) (Ε:=h1.v) (m:=n)) ?_;intro hn;refine Nd ?_;intros;refine GO.ef (Ef.g9 rfl) ae ?_;rintro _ _⟨r,rfl,rfl⟩;refine Nd ?_;intros;refine Α.loop (α:=List (Int×h1)) (λz=>z.length<=n.length) (λz=>[(0,.map (some Μ)),(7,av r)]) (λz=>[fY gm h1.v s n r z,cS gm h1.v Μ (ij m z)]) (λz=>n.length - z.length) [] (aC _) aD (F.refl _) ?_;intro z hz;refine Nd ?_;intros;refine GO.ef (Ef.j6 rfl) ae ?_;rintro _ _ (⟨rfl,rfl,hp⟩|⟨p,rfl,rfl,B,M,U⟩)
 .refine Nd ?_;intros;refine KX.c8 aF F.drop ⟨ij m z,⟨λk=>?_,λq hq=>?_⟩,rfl⟩
  .rw[oA k z m ((hp.map _).nodup_iff.2 hn),ti hp hn]
  .rcases sq hq with K|K
   .exact .inl K
   .exact .inr (hp.mem_iff.1 K)
 refine Nd ?_;intros;refine GO.ev (Ev.j6 (done:=z) rfl rfl) ae ?_;refine Nd ?_;intros;refine GO.NH (Ef.d9 (Ε:=h1.v) (e:=p.2) rfl rfl rfl rfl) ?_;rintro _ _ rfl;refine Nd ?_;intros;refine⟨z++[p],by simp;omega,by simp;omega,aD,?_⟩;rw[show ij m (z++[p])=cZ (ij m z) p.1 p.2 by simp[ij]];exact ak
abbrev Ed:=YZ [.ev 4,.ef 5]
abbrev Ec:=Za [.ef 6]
abbrev AV:=Zb [.ef 8]
abbrev AU:=Zb [.ef 8]
abbrev AT:=Zb [.ef 8]
abbrev AS:=Zb [.ev 8,.ef 9,.ev 10,.ev 11,.ef 12]
abbrev AR:=Zb [.ev 8,.ef 9,.ef 10,.ev 11,.ev 12,.ef 13]
def SB{φ ψ:Prop}(k:ψ)(h:Hid ψ->φ:=by intro k;(repeat (first|refine ab ?_|intro B6|refine Α.dr 100 8 Ed ?_|refine Α.dr 100 9 Ec ?_|refine Α.dr 100 10 AV ?_|refine Α.dr 100 11 AU ?_|refine Α.dr 100 12 AT ?_|refine Α.dr 100 13 AS ?_|refine Α.dr 100 14 AR ?_));(repeat revert B6);exact Hid.out k):φ:=h ⟨k⟩
def kZ{L:Η}(b:Nat)(S:Ρ)(k:Nat)(hS:SZ k S)(hc:S.π.Ok)(h0:0<=S.now)(s:M0)(hs:Sl s)(a3:s.fe.length<=s.iI)(hk:k+C5 s.m.fe<=2000)(hT:∀mx,Ug mx) :
  Τ Θ 30 #[av b,bF (eK s)] (aU b S::stM s::Nu s::L) (F3 (.tuple #[J (Vl S s.m),J (E2 S s.m).1]) (aU b (bM S s.m)::stM s::Nu s::L)):=by
 obtain⟨b8,b9⟩:=hS.g.D8;have c5:=hS.g.D9;have c1:=hS.g.Κ;refine Τ.bd ?_;refine Α.c9 (f:=jY b S) ?_;intro x;simp only[jY,E1,au,ax];refine Α.d7 ?_;intro hF;have d0:x.D9.length=S.D9.length:=by rw[<-hF.D9];simp
 have c6:x.Κ.length=S.Κ.length:=by rw[<-hF.Κ];simp
 refine SB ?_;intros;refine GO.cL F.drop ?_;refine GO.ca (FE b S k hS hc h0 x hF s hs a3 hk hT) ?_;rintro _ _ (⟨he,rfl,rfl⟩|⟨he,bc,s',z,rfl,⟨b4,hW⟩,rfl⟩)
 .have e1:bM S s.m=S:=Ν he;have e2:Vl S s.m=0:=Ν he;rw[e1,e2];refine SB ?_;intros;exact KX.a8 aF (jf x hF) ⟨rfl,rfl⟩
 have e1:bM S s.m=fC S s.m:=Χ he;have e2:Vl S s.m=cT S:=Χ he;obtain⟨o1,o2,o4⟩:=tw hS hk he;have c2:s.m.fe.length<=64:=o2.2.2.2.1.2
 have d1:z.Κ.length<=64:=by
  have:=congrArg List.length hW.Κ
  rw[al] at this;omega
 have c0:0<z.Κ.length:=by
  have K:=congrArg List.length hW.Κ;rw[al] at K;have T:=o2.2.2.2.1.1;omega
 have a7:s'.A=cT S:=congrArg D6.A b4;rw[e1,e2,he];simp only[G9,E1,cV,cJ];refine SB ?_;intros;refine GO.g8 (eO (b:=z.cs) (kv:=D5) (Ε:=h1.v) (m:=z.ν)) ?_;intro b2;refine GO.ef (Ef.g9 rfl) ae ?_;rintro _ _⟨r,rfl,rfl⟩;refine SB ?_;intros
 refine Α.loop (α:=List ((Int×Int)×h1)) (λg=>g.length<=z.ν.length) (λ_=>[(0,av b),(6,av bc),(23,av r)])
  (λg=>fY D5 h1.v z.cs z.ν r g::cS D5 h1.v x.Q (iF x.ν g)::obj bc Ww (cV b s' z)::cS gm Q2 z.ct z.id::cS gm h1.v z.ci z.imp::cS gm h1.v z.cr z.ret::Ω ft 11 gX z.C3 z.F1 z.Κ::Ψ (λp:(Int×Int)×h1=>G8 p.2) z.ν::Ψ Pm z.Κ::Ψ (λp:Int×h1=>G8 p.2) z.imp::Ψ (λp:Int×h1=>G8 p.2) z.ret::obj b Tp (cJ S.D8 x)::cS gm Q2 x.mt x.id::PR eK 7 ji x.K0 x.Qq x.D9::PR ft 11 gX x.C3 x.F1 x.Κ::cS gm h1.v x.mi x.imp::cS gm h1.v x.mr x.ret::Oz x.π::Ψ (λp:(Int×Int)×h1=>G8 p.2) x.ν::Ψ iu x.D9::Ψ Pm x.Κ::Ψ (λp:Int×h1=>G8 p.2) x.imp::Ψ (λp:Int×h1=>G8 p.2) x.ret::stM s'::Nu s'::stM s::Nu s::L)
  (λg=>z.ν.length - g.length) [] (aC _) aD ?_ ?_
 .simp only[iF,List.foldl_nil];exact ak
 intro g hg;simp only[cV,cJ];refine SB ?_;intros;refine GO.ef (Ef.j6 rfl) ae ?_;rintro _ _ (⟨rfl,rfl,hp⟩|⟨p,rfl,rfl,c3,c4,U⟩)
 case inr =>
  have b3:iF x.ν (g++[p])=SG (iF x.ν g) p:=by simp[iF]
  refine SB ?_;intros;refine GO.ev (Ev.j6 (done:=g) rfl rfl) ae ?_;simp only[D5,h1.v,aq,bz];by_cases h0:p.2.C8.length=0
  .have a5:SG (iF x.ν g) p=I1 (iF x.ν g) p.1:=Χ h0;refine SB ?_;intros;refine δ.NH (Ef.m6 rfl rfl) ?_;rintro _ _ rfl;refine SB ?_;intros;refine⟨g++[p],by simp;omega,by simp;omega,aD,?_⟩;rw[b3,a5];exact ak
  .have a5:SG (iF x.ν g) p=cZ (iF x.ν g) p.1 p.2:=Ν h0;refine SB ?_;intros;refine δ.NH (Ef.d9 (Ε:=h1.v) (e:=p.2) rfl rfl rfl rfl) ?_;rintro _ _ rfl;refine SB ?_;intros;refine⟨g++[p],by simp;omega,by simp;omega,aD,?_⟩;rw[b3,a5];exact ak
 refine SB ?_;intros;(first|refine δ.ef (Ef.call (Fk x.mt z.ct x.id z.id) rfl fQ) ae ?_);rintro _ _⟨_,⟨m',b6,rfl⟩,hL⟩;simp only[au,ax] at hL;subst hL;refine SB ?_;intros;(first|refine δ.ef (Ef.call (sC x.mi z.ci x.imp z.imp) rfl fQ) ae ?_);rintro _ _⟨_,⟨a9,⟨b5,a4⟩,rfl⟩,hL⟩;simp only[au,ax] at hL;subst hL;refine SB ?_;intros;(first|refine δ.ef (Ef.call (sC x.mr z.cr x.ret z.ret) rfl fQ) ae ?_);rintro _ _⟨_,⟨b0,⟨b7,a6⟩,rfl⟩,hL⟩;simp only[au,ax] at hL;subst hL;refine SB ?_;intros;refine δ.ef (Ef.l0 (Ε:=ft) (ys:=z.Κ) rfl rfl rfl rfl rfl c0 (λe _=>oh e) D D) ae ?_;rintro _ _⟨a2,B,rfl,rfl⟩;refine SB ?_;intros;refine δ.ef (Ef.k9 (Ε:=eK) (e:=s') rfl rfl rfl rfl rfl bh (uO _) D D) ae ?_;rintro _ _⟨b1,M,rfl,rfl⟩;refine SB ?_;intros;rw[a7];refine KX.a8 aF ?_ ⟨rfl,rfl⟩;refine F.trans ?_ (jf (S:=fC S s.m) { x with ν:=iF x.ν g,id:=m',imp:=a9,ret:=b0,D9:=x.D9++[s'],K0:=b1,Qq:=M,Κ:=x.Κ++z.Κ,C3:=a2,F1:=B } ⟨hF.π,hF.UP,?_,?_,?_,?_,?_,?_,?_⟩)
 .simp only[E1,cJ,fC];refine(F.at (Ο:=Nu s') (F.refl _)).trans ?_;refine(F.at (Ο:=stM s') (F.refl _)).trans ?_;refine(F.f9 (Dw s') (fi ku)).trans ?_;refine(F.at (Ο:=Ψ iu x.D9) (F.refl _)).trans ?_;refine((F.c7 (F.d7 (f:=iu) (x:=s') rr)).trans (F.c9 rr)).trans ?_;refine(F.at (Ο:=Ψ Pm z.Κ) (F.refl _)).trans ?_;refine(F.at (Ο:=Ψ Pm x.Κ) (F.refl _)).trans ?_;refine(F.c9 xt).trans ?_;refine(F.at (Ο:=Ψ (λp:(Int×Int)×h1=>G8 p.2) z.ν) (F.refl _)).trans ?_;refine(F.at (Ο:=Ψ (λp:(Int×Int)×h1=>G8 p.2) x.ν) (F.refl _)).trans ?_;refine(F.c9 (f:=λp:(Int×Int)×h1=>G8 p.2) (λp=>tY p.2)).trans ?_;refine(F.g8 (l':=iF x.ν g) (λq hq=>?_)).trans ?_
  .rcases pB hq with K|K
   .exact cI _ K
   .exact cw _ (hp.mem_iff.1 K.1)
  refine(F.at (Ο:=Ψ (λp:Int×h1=>G8 p.2) z.imp) (F.refl _)).trans ?_;refine(F.at (Ο:=Ψ (λp:Int×h1=>G8 p.2) x.imp) (F.refl _)).trans ?_;refine(F.c9 (f:=λp:Int×h1=>G8 p.2) (λp=>tY p.2)).trans ?_;refine(F.g8 (l':=a9) (λq hq=>List.mem_append.2 (a4 q hq))).trans ?_;refine(F.at (Ο:=Ψ (λp:Int×h1=>G8 p.2) z.ret) (F.refl _)).trans ?_;refine(F.at (Ο:=Ψ (λp:Int×h1=>G8 p.2) x.ret) (F.refl _)).trans ?_;refine(F.c9 (f:=λp:Int×h1=>G8 p.2) (λp=>tY p.2)).trans ?_;refine(F.g8 (l':=b0) (λq hq=>List.mem_append.2 (a6 q hq))).trans ?_;exact ak
 .intro a i;rw[qt _ _ _ ((hp.map _).nodup_iff.2 b2),ti hp b2];exact hW.ν a i
 .intro q hq;rcases pB hq with K|K
  .exact hF.full q K
  .exact K.2
 .intro i;dsimp only;rw[b6,KL];exact hW.id i
 .show(x.D9++[s']).map M0.m=S.D9++[s.m.at (cT S)];rw[aQ,hF.D9,<-b4];rfl
 .show(x.Κ++z.Κ).map (·.m)=S.Κ++(E2 S s.m).2.Κ;rw[aQ,hF.Κ];exact congrArg _ hW.Κ
 .show Qu (fJ a9) (dm (S.Κ++(E2 S s.m).2.Κ));rw[xM b5];exact hW.imp
 .show Qu (fJ b0) (jM (S.Κ++(E2 S s.m).2.Κ));rw[xM b7];exact hW.ret
end
section
open Go.V
def Q7(f:Int->Int):List Int->Int
 | []=>0
 | a::l=>f a+Q7 f l
def pm{f g:Int->Int}:∀{Ο:List Int},(∀a∈Ο,f a=g a)->Q7 f Ο=Q7 g Ο
 | [],_=>rfl
 | a::Ο,h=>by
  have K:=h a aA;have T:=pm (Ο:=Ο) (λx O=>h x (az _ O));show f a+Q7 f Ο=g a+Q7 g Ο;rw[K,T]
theorem sG{f:Int->Int}{u Μ:Int}:∀{Ο:List Int},Ο.Nodup->Q7 (λa=>f a+(if a=u then Μ else 0)) Ο=Q7 f Ο+(if u∈Ο then Μ else 0)
 | [],_=>rfl
 | a::Ο,h=>by
  rw[eD] at h;have ih:=sG (f:=f) (u:=u) (Μ:=Μ) (Ο:=Ο) h.2;grind [Q7]
def rS(ν:Int->Int->ο)(iL:List E3):Prop:=∀a i,ν a i≠[]->∃f∈iL,f.to=a/\f.a1=i
structure Rj (ν:Int->Int->ο) (id:Int->Int) (fl:List E3):Prop where
 sum:∀i (Ο:List Int),Ο.Nodup->0∉Ο->Q7 (λa=>aY (ν a i)) Ο<=id i
 WK:∀i,ν 0 i=[]
 src:rS ν fl
 top:∀i,id i<=1099511627776
theorem Rj.nn{ν:Int->Int->ο}{id:Int->Int}{fl:List E3}(h:Rj ν id fl)(i:Int):0<=id i:=h.sum i [] dq aj
theorem Rj.le{ν:Int->Int->ο}{id:Int->Int}{fl:List E3}(h:Rj ν id fl){a:Int}(ha:a≠0)(i:Int):aY (ν a i)<=id i:=by
 have:=h.sum i [a] cj aj
 grind [Q7]
theorem He{d:Int}{fl:List E3}{hl:Int->Bool}{s:D6}{W:Wk}{m:A8}(he:(cg d fl hl s W m).1=0) :
  N4 d (fl++W.Κ) s W m=0/\du W m<=1099511627776/\(cg d fl hl s W m).2.id=Pu W.id m.a1 (du W m)/\(cg d fl hl s W m).2.Κ=W.Κ++[gF d fl.length hl s W m]/\(cg d fl hl s W m).2.ν=if m.to=0 then NI hl W m else Qf (NI hl W m) m.to m.a1 (bH (NI hl W m m.to m.a1) (eZ d fl.length W,0,m.n)):=by
 grind [cg]
theorem wG{d:Int}{fl:List E3}{hl:Int->Bool}{s:D6}{W:Wk}{k:Nat}{m:A8}(h:Ry d fl k W)(hm:Qt m)(hk:k+m.Β.length<=2000)(hB:Rj W.ν W.id (fl++W.Κ))(he:(cg d fl hl s W m).1=0) :
  (m.Λ≠0->m.n<=aY (W.ν m.Λ m.a1))/\(∀a i,a≠0->aY ((cg d fl hl s W m).2.ν a i)=aY (W.ν a i)+(if a=m.Λ then(if i=m.a1 then -m.n else 0) else 0)+(if a=m.to then(if i=m.a1 then m.n else 0) else 0))/\(∀i,(cg d fl hl s W m).2.id i=W.id i+if i=m.a1 then UU m else 0)/\Rj (cg d fl hl s W m).2.ν (cg d fl hl s W m).2.id (fl++(cg d fl hl s W m).2.Κ):=by
 obtain⟨e1,e2,e3,e4,e5⟩:=He he;rw[e3,e4,e5];have hn:=hm.n;have a5:=hm.ne;have a2:m.Λ≠0->aY (xr hl W m)=aY (W.ν m.Λ m.a1) - m.n:=λh0=>Jk (mixed:=hl m.a1) (h.ν m.Λ m.a1) hm h0 e1
 have M:m.Λ≠0->m.n<=aY (W.ν m.Λ m.a1):=λh0=>by
  have g1:=(uD (hl:=hl) h hm D e1 m.Λ m.a1).C8;unfold NI Qf at g1;rw[Ν h0,Χ ⟨rfl,rfl⟩] at g1;have:=vu g1
  omega
 have hG:∀a i,aY (NI hl W m a i)=aY (W.ν a i)+(if m.Λ≠0/\a=m.Λ/\i=m.a1 then -m.n else 0):=λa i=>by
  unfold NI;grind [Qf]
 have hS:∀a i,a≠0->aY ((if m.to=0 then NI hl W m else Qf (NI hl W m) m.to m.a1 (bH (NI hl W m m.to m.a1) (eZ d fl.length W,0,m.n))) a i)=aY (W.ν a i)+(if a=m.Λ then(if i=m.a1 then -m.n else 0) else 0)+(if a=m.to then(if i=m.a1 then m.n else 0) else 0):=λa i ha=>by
  have g:=hG a i
  have e0:(if m.Λ≠0/\a=m.Λ/\i=m.a1 then -m.n else 0)=(if a=m.Λ then(if i=m.a1 then -m.n else 0) else 0):=by
   by_cases q1:a=m.Λ
   .omega
   .omega
  grind [Qf,pL]
 have hT:∀i,Pu W.id m.a1 (du W m) i=W.id i+if i=m.a1 then UU m else 0:=by grind [Pu,du,UU]
 refine⟨M,hS,hT,⟨λi Ο hA h0=>?_,λi=>?_,?_,λi=>?_⟩⟩
 .rw[hT i];by_cases qi:i=m.a1
  case neg =>
   rw[Ν qi,dC];rw[pm (g:=λa=>aY (W.ν a i)) aj];exact hB.sum i Ο hA h0
  rw[Χ qi]
  have hs:Q7 (λa=>aY ((if m.to=0 then NI hl W m else Qf (NI hl W m) m.to m.a1 (bH (NI hl W m m.to m.a1) (eZ d fl.length W,0,m.n))) a i)) Ο=Q7 (λa=>aY (W.ν a i)) Ο+(if m.Λ∈Ο then -m.n else 0)+(if m.to∈Ο then m.n else 0):=by
   rw[pm (g:=λa=>(aY (W.ν a i)+(if a=m.Λ then -m.n else 0))+(if a=m.to then m.n else 0)) aj];rw[sG (f:=λa=>aY (W.ν a i)+(if a=m.Λ then -m.n else 0)) hA,sG (f:=λa=>aY (W.ν a i)) hA]
  rw[hs];have hb:=hB.sum i Ο hA h0;by_cases f0:m.Λ=0
  .grind [UU]
  .have U:=M f0;by_cases fA:m.Λ∈Ο
   .grind [UU]
   .rw[Ν fA];have a3:aY (W.ν m.Λ i)+Q7 (λa=>aY (W.ν a i)) Ο<=W.id i:=hB.sum i (m.Λ::Ο) aj aj;grind [UU]
 .have hg:NI hl W m 0 i=[]:=by
   unfold NI;split
   .exact hB.WK i
   .rename_i f0;unfold Qf;rw[Ν D];exact hB.WK i
  grind [Qf]
 .intro a i B
  have Ι:W.ν a i≠[]->∃f∈fl++(W.Κ++[gF d fl.length hl s W m]),f.to=a/\f.a1=i:=λq=>by
   obtain⟨f,hf,e⟩:=hB.src a i q;grind
  have a4:NI hl W m a i≠[]->W.ν a i≠[]:=λq r=>by
   unfold NI at q;grind [Qf,aY]
  by_cases t0:m.to=0
  .grind
  .rw[Ν t0] at B;by_cases hq:a=m.to/\i=m.a1
   .exact⟨gF d fl.length hl s W m,cw _ aj,hq.1.symm,hq.2.symm⟩
   grind [Qf]
 .unfold Pu;split
  .exact e2
  .exact hB.top i
inductive SJ:Ρ->List D6->Ρ->Prop
 | nil (S:Ρ):SJ S [] S
 | cons {S S' : Ρ} {s:D6} {ss:List D6}:(E2 S s).1=0->s.A=cT S->SJ (bM S s) ss S'->SJ S (s::ss) S'
def SJ.snoc{S' : Ρ}{s:D6}:∀{ss:List D6} {S:Ρ},SJ S ss S'->(E2 S' s).1=0->SJ S (ss++[s.at (cT S')]) (bM S' s)
 | [],_,.nil _,h=>.cons (s:=s.at (cT S')) h rfl (.nil _)
 | u::ss,S,.cons K T h3,h=>.cons K T (SJ.snoc h3 h)
def P5.acc{d:Int}{c:B0}{S:Ρ}(h:P5 d c S):SJ (L3 d c) S.D9 S:=by
 induction h with
 | zero=>exact .nil _
 | post K T ih =>
  have e:(bM _ _).D9=_:=congrArg Ρ.D9 (Χ T);rw[e];exact SJ.snoc (S:=L3 d c) ih T
theorem SJ.pre:∀{ss:List D6} {S S' : Ρ},SJ S ss S'->∃z,S'.Κ=S.Κ++z
 | [],_,_,.nil _=>⟨[],aj⟩
 | s::ss,S,S',.cons K T h3=>by
  obtain⟨z,hz⟩:=h3.pre;obtain⟨w,hw⟩:=sr S s;grind
structure adg (n:Nat) (ν:Int->Int->ο) (id:Int->Int) (t:List Int) (f:Int->Int->Int):Prop where
 len:t.length=n
 t:∀i:Nat,i<n->t[i]! = id i
 f:∀a i,f a i=if a=0 then 0 else aY (ν a i)
theorem IQ(d:Int)(c:B0):Rj (L3 d c).ν (L3 d c).id (L3 d c).Κ:=by
 refine⟨λi Ο _ _=>?_,λ_=>rfl,λa i h=>hD rfl h,λ_=>by show(0:Int)<=1099511627776;omega⟩;show Q7 (λ_=>aY ([]:ο)) Ο<=0
 have:∀Ο:List Int,Q7 (λ_=>aY ([]:ο)) Ο=0:=λΟ=>by
  induction Ο with
  | nil=>rfl
  | cons a Ο ih =>
   grind [Q7,aY]
 grind
def V0:List Ru:=[⟨⟨#[103,111,108,100]⟩,false,false,true,0,0,0⟩,⟨⟨#[111,114,101]⟩,false,false,false,0,0,0⟩,⟨⟨#[100,117,115,116]⟩,false,true,false,0,0,0⟩,⟨⟨#[103,101,109]⟩,false,false,false,0,0,0⟩]
def I6:B0:=⟨V0,[]⟩
def Ak(bi:Nat):L1:=⟨V0,some ⟨bi,0,none⟩,4,none,0,none,0,none,0⟩
def Jt(bi:Nat):(Ak bi).fG:=⟨aW rfl⟩
attribute [local irreducible] Α GO GP δ ms GF GE Ev Ef C0 F CB GB V.Enters
def vJ{L:Η}:Τ Θ 47 #[] L (λv Γ=>∃c:L1,v=bF c.cells/\(c.m=I6/\c.fG)/\Γ = Oz c::L):=by
 refine Τ.bd ?_;refine Nd ?_;intros;rename_i b0 bi;refine KX.a8 (vs:=[.agg (Ak bi).cells.toArray]) (C7.cell rfl bh C7.nil) ?_ ⟨Ak bi,rfl,⟨rfl,Jt bi⟩,rfl⟩;exact(F.n7 (b:=bi) (Ε:=dI) (sz:=7) V0 rfl (λ_ _=>rfl) (aW rfl)).trans (F.c7 F.drop)
end
section
open Go.V
def Ρ.V1(S:Ρ)(x:OB):Ρ:={ S with imp:=λi=>(fJ x.imp i).C8,ret:=λi=>(fJ x.ret i).C8 }
def Uq.Zw{S:Ρ}{x:OB}(h:Uq S x):VS (S.V1 x) x:=⟨h.π,h.UP,h.ν,h.full,h.id,h.D9,h.Κ,λ_=>rfl,λ_=>rfl⟩
def jo{α:Type}[DecidableEq α]:∀{l m:List α},l.Nodup->(∀x∈l,x∈m)->l.length<=m.length
 | [],_,_,_=>aC _
 | x::l,m,hn,hs=>by
  obtain⟨K,T⟩:=List.nodup_cons.1 hn;have O:=hs x aA;have h3:=jo (m:=m.erase x) T (λy Y=>(List.mem_erase_of_ne (λe=>K (by rw[<-e];exact Y))).2 (hs y (az _ Y)));have h4:=List.length_erase_of_mem O;have h5:=List.length_pos_of_mem O;rw[aK];omega
def Vo(S:Ρ)(a i:Int):Int:=aY (S.ν a i)
def lO(p:(Int×Int)×h1):Hd:=(p.1.1,p.1.2,aY p.2.C8)
def CD{S:Ρ}(h:S.Ok){a i:Int}:aY (S.ν a i)≠0↔S.ν a i≠[]:=by
 constructor
 .intro q e;exact q (by rw[e];rfl)
 .intro q;have:=lC (h.ν a i).2 (List.length_pos_iff.2 q)
  omega
def Jb{S:Ρ}{x:OB}(hS:S.Ok)(hF:VS S x)(hn:(x.ν.map (·.1)).Nodup){ys:List Hd}(Y:gW Q4 (x.ν.map lO) ys):TT (Vo S) ys:=by
 have M:∀p∈x.ν,S.ν p.1.1 p.1.2=p.2.C8:=λp hp=>by
  rw[<-hF.ν];unfold fJ ζ;rw[fj hn hp];rfl
 have B:(ys.map (λh=>(h.1,h.2.1))).Nodup:=by
  refine((Y.1.map _).nodup_iff).2 ?_;rw[co];exact hn
 constructor
 .have T:=List.pairwise_map.1 B;refine(List.pairwise_and_iff.2 ⟨Y.2,T⟩).imp (λ {a b} h=>?_);obtain⟨q1,q2⟩:=h;rw[qQ] at q1;have q3:¬(a.1=b.1/\a.2.1=b.2.1):=λe=>q2 (by rw[e.1,e.2]);unfold SX at q1 ⊢;omega
 .intro h;rw[Y.1.mem_iff,List.mem_map];constructor
  .rintro⟨p,hp,rfl⟩;have e:=M p hp;refine⟨?_,?_⟩
   .show aY p.2.C8=aY (S.ν p.1.1 p.1.2);rw[e]
   .show aY p.2.C8≠0;rw[<-e];refine(CD hS).2 ?_;rw[e];exact hF.full p hp
  .rintro⟨e1,e2⟩;have h3:S.ν h.1 h.2.1≠[]:=(CD hS).1 (by rw[e1] at e2;exact e2);have h4:=hF.ν h.1 h.2.1;unfold fJ at h4;cases hg:ζ x.ν (h.1,h.2.1) with
   | none =>
    rw[hg] at h4;exact hD h4.symm h3
   | some s =>
    rw[hg] at h4;refine⟨((h.1,h.2.1),s),bQ hg,?_⟩;obtain⟨a,i,n⟩:=h;show(a,i,aY s.C8)=(a,i,n);have h5:s.C8=S.ν a i:=h4;rw[h5];have h6:n=aY (S.ν a i):=e1;rw[h6]
def Ih{S:Ρ}{x:OB}(hS:rS S.ν S.Κ)(hF:VS S x)(hn:(x.ν.map (·.1)).Nodup):x.ν.length<=S.Κ.length:=by
 have h:=jo (m:=S.Κ.map (λf=>(f.to,f.a1))) hn (λk hk=>by
  obtain⟨p,hp,rfl⟩:=H9 hk
  have e:S.ν p.1.1 p.1.2=p.2.C8:=by
   rw[<-hF.ν];unfold fJ ζ;rw[fj hn hp];rfl
  obtain⟨f,hf,e1,e2⟩:=hS p.1.1 p.1.2 (by rw[e];exact hF.full p hp);exact List.mem_map.2 ⟨f,hf,by rw[e1,e2]⟩)
 rw[al,al] at h;exact h
def Sk.ok{k:Nat}{S:Ρ}(h:Sk k S)(hk:k<=4096):S.Ok:=⟨h.D8,h.D9,h.Κ,λa i=>⟨aO (h.ν a i).len hk,(h.ν a i).C8⟩,h.id⟩
def JK:Qu (fJ ([]:List (Int×h1))) []:=Ii
attribute [local irreducible] Α GO GP δ ms GF GE Ev Ef C0 F CB GB V.Enters
abbrev Ea:=YZ [.ev 5,.ev 6,.ev 7,.ev 8,.ef 4,.ef 9,.ef 10,.ef 11,.ev 12]
def SR{φ ψ:Prop}(k:ψ)(h:Hid ψ->φ:=by intro k;(repeat (first|refine ab ?_|intro B6|refine Α.dr 17 1 Ea ?_));(repeat revert B6);exact Hid.out k):φ:=h ⟨k⟩
def BP{L:Η}(x y:Hd):Τ Θ 60 #[bF (kb x),bF (kb y)] L (F3 (J (Q4 x y)) L):=by
 refine Τ.bd ?_;refine SR ?_;intros;refine δ.cr (kr x.1 y.1) ?_;refine SR ?_;intros;refine δ.cr (kr x.2.1 y.2.1) ?_;refine SR ?_;intros;rename_i bc;refine δ.cL (F.d9 (Ε:=dJ .i64) (sz:=1) (I:=[PD x.1 y.1,PD x.2.1 y.2.1]) rfl rfl (λ_ _=>rfl) cj) ?_;refine δ.cr (pJ (some ⟨bc,0,none⟩) 2 (PD x.1 y.1) (PD x.2.1 y.2.1)) ?_;refine SR ?_;intros;exact KX.en ⟨rfl,rfl⟩
def zh{η cap:Nat}{ad:OA}{I:List Hd}(B:I.length<4611686018427387904) :
  Τ Θ 59 #[ah ad I.length cap,.func (.func 60) #[] #[]] [Ω kb 3 η ad cap I] (λv Γ=>v=.tuple #[]/\∃ys,gW Q4 I ys/\Γ = [Ω kb 3 η ad cap ys]) :=
 Τ.a8 (ρ:=Tryz.XA) Tryz.Zq (k:=3) Tryz.isAgg73 Tryz.sizeOf73 (λ_=>rfl) wK (Lc:=[]) Q4 CN Y6 Y7.1 (λ_ _ _=>trivial) (λx y=>(BP (L:=[]) x y).mono (λ_ _ h=>h.1)) B
abbrev Eb:=Za [.ef 6,.ev 7,.ef 8,.ef 9,.ev 10]
def SV{φ ψ:Prop}(k:ψ)(h:Hid ψ->φ:=by intro k;(repeat (first|refine ab ?_|intro B6|refine Α.dr 35 5 Eb ?_));(repeat revert B6);exact Hid.out k):φ:=h ⟨k⟩
def EU{L:Η}(b:Nat)(S:Ρ)(x:OB)(hF:VS S x)(hO:S.Ok)(hS:rS S.ν S.Κ)(b4:S.Κ.length<=100000) :
  Τ Θ 21 #[av b] (obj b Tp (cJ S.D8 x)::cS D5 h1.v x.Q x.ν::Ψ (λp:(Int×Int)×h1=>G8 p.2) x.ν::L) (λv Γ=>∃ad cap hs,v=ah ad hs.length cap/\(TT (Vo S) hs/\hs.length<=4194304)/\Γ = Ω kb 3 VW ad cap hs::obj b Tp (cJ S.D8 x)::cS D5 h1.v x.Q x.ν::Ψ (λp:(Int×Int)×h1=>G8 p.2) x.ν::L):=by
 refine Τ.bd ?_;simp only[cJ];refine Α.c8 (eO (b:=x.Q) (m:=x.ν) (kv:=D5) (Ε:=h1.v)) ?_;intro M;have b1:=Ih hS hF M;refine SV ?_;intros;refine GO.ev (Ev.Ue rfl) ae ?_;refine SV ?_;intros;refine GO.ef (Ef.j5 kb ((0,0,0):Int×Int×Int) rfl rfl rfl ae D D D) ae ?_;rintro _ _⟨bs,rfl,rfl⟩;rw[show List.replicate (0:Int).toNat ((0,0,0):Int×Int×Int)=[] from rfl];refine SV ?_;intros;refine GO.ef (Ef.g9 rfl) ae ?_;rintro _ _⟨r,rfl,rfl⟩;refine SV ?_;intros;refine Α.loop (α:=OA×Nat×List ((Int×Int)×h1)) (λz=>z.2.2.length<=x.ν.length) (λz=>[(3,ah z.1 (z.2.2.map lO).length z.2.1),(16,av r)]) (λz=>fY D5 h1.v x.Q x.ν r z.2.2::Ω kb 3 VW z.1 z.2.1 (z.2.2.map lO)::obj b Tp (cJ S.D8 x)::Ψ (λp:(Int×Int)×h1=>G8 p.2) x.ν::L) (λz=>x.ν.length - z.2.2.length) (some ⟨bs,0,none⟩,(x.ν.length:Int).toNat,[]) (aC _) aD (F.refl _) ?_;rintro⟨ad,cap,done⟩ a9;dsimp only at a9 ⊢;have b6:(done.map lO).length=done.length:=by simp
 refine SV ?_;intros;refine GO.ef (Ef.j6 rfl) ae ?_;rintro _ _ (⟨rfl,rfl,hp⟩|⟨p,rfl,rfl,a5,b7,b5⟩)
 .have b0:=hp.length_eq;refine SV ?_;intros;(first|refine GO.ef (Ef.call (zh (η:=VW) (ad:=ad) (cap:=cap) (I:=done.map lO) D) rfl fQ) ae ?_);rintro _ _⟨_,⟨rfl,ys,a2,rfl⟩,hL⟩;simp only[au,ax] at hL;subst hL;refine SV ?_;intros;have a3:gW Q4 (x.ν.map lO) ys:=⟨a2.1.trans (hp.map lO),a2.2⟩;have b3:=a2.1.length_eq;refine KX.a8 aF ?_ ⟨ad,cap,ys,by rw[b3];rfl,⟨Jb hO hF M a3,D⟩,rfl⟩;refine(F.at (Ο:=fY D5 h1.v x.Q x.ν r done) F.j8).trans ?_;exact ak
 have b2:p.2.C8=S.ν p.1.1 p.1.2:=by
  rw[<-hF.ν];unfold fJ ζ;rw[fj M a5];rfl
 obtain⟨a7,a4⟩:=hO.ν p.1.1 p.1.2;rw[<-b2] at a7 a4;refine GO.cL (F.at (Ο:=Ψ (λp:(Int×Int)×h1=>G8 p.2) x.ν) (F.d8 (x:=p) a5)) ?_;refine SV ?_;intros;refine GO.ev (Ev.j6 (done:=done) rfl rfl) ae ?_;simp only[D5,h1.v,aq,bz];refine SV ?_;intros;refine δ.cr (lI p.2.ad _ p.2.cap p.2.C8 rfl D a4) ?_;refine SV ?_;intros;refine δ.ef (Ef.a8 (Ε:=kb) (e:=lO p) rfl rfl rfl rfl rfl bh (wK _) D D) ae ?_;rintro _ _⟨a6,B,rfl,rfl⟩;refine SV ?_;intros;refine⟨(a6,B,done++[p]),by dsimp only;simp;omega,by dsimp only;simp;omega,?_,?_⟩
 .dsimp only;rw[aQ];exact aD
 .dsimp only;rw[aQ,show List.map lO [p]=[lO p] from rfl];exact ak
def EQ{L:Η}(d:Int)(c:L1)(M:0<=d/\d<12)(hB:c.fG)(h:TS c.m):Τ Θ 46 #[J d,bF c.cells] (Oz c::cc::L) (λv Γ=>∃b,v=.tuple #[av b,J 0]/\Γ = aU b (L3 d c.m)::Oz c::cc::L):=by
 obtain⟨K,T⟩:=M;refine Τ.bd ?_;simp only[L1.cells];refine Nd ?_;intros;rename_i b3;refine GO.cL (Γ:=Oz c::cc::obj b3 Ui c.cells::L) (by simp only[L1.cells];exact ak) ?_;refine GO.cr (Hz c h) ?_;simp only[L1.cells];refine Nd ?_;intros;refine GO.cL (Γ:=Oz c::cc::obj b3 Ui c.cells::L) (by simp only[L1.cells];exact ak) ?_;refine GO.ca (ql c hB) ?_;rintro _ _⟨c',rfl,B,rfl⟩;simp only[L1.cells];refine GO.ef (Ef.c8 D5 h1.v (.inl rfl)) ae ?_;rintro _ _⟨b1,rfl,rfl⟩;refine GO.ef (Ef.c8 gm Q2 (.inl rfl)) ae ?_;rintro _ _⟨b2,rfl,rfl⟩;refine GO.ef (Ef.c8 gm h1.v (.inl rfl)) ae ?_;rintro _ _⟨b4,rfl,rfl⟩;refine GO.ef (Ef.c8 gm h1.v (.inl rfl)) ae ?_;rintro _ _⟨b5,rfl,rfl⟩;refine Nd ?_;intros;rename_i b6;refine KX.a8 aF ?_ ⟨b6,rfl,rfl⟩;refine F.trans ?_ (jf (S:=L3 d c.m) ⟨c',b1,b2,b4,b5,[],[],[],[],[],none,0,[],none,0⟩ ⟨B,L1.a8 B hB,λ_ _=>rfl,(λ_ h=>by cases h),λ_=>rfl,rfl,rfl,JK,JK⟩);simp only[E1,cJ,L3];refine(F.c8 eK 7 ji).trans (F.VQ.trans ((F.c8 ft 11 gX).trans (F.VQ.trans ?_)));refine(F.a8 (λp:(Int×Int)×h1=>G8 p.2)).trans ((F.a8 iu).trans ((F.a8 Pm).trans ((F.a8 (λp:Int×h1=>G8 p.2)).trans ((F.a8 (λp:Int×h1=>G8 p.2)).trans ?_))));exact ak
