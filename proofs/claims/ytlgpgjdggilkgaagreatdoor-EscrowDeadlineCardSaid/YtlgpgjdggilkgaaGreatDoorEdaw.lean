/- Lemmas. -/
import Derived.Test.YtlgpgjdggilkgaaGreatDoorEdav
set_option linter.all false
set_option maxHeartbeats 4000000
namespace Go.Proofs.YtlgpgjdggilkgaaGreatDoor
section
open Go.V
def sq{κ α:Type}[DecidableEq κ]{q:κ×α}:∀{n m:List (κ×α)},q∈im m n->q∈m\/q∈n
 | [],_,h=>.inl h
 | p::n,m,h=>by
  rcases sq (n:=n) (m:=ez m p.1 p.2) h with I|I
  .rcases L7 (tn q I) with Q|Q
   .exact .inr (by rw[Q];exact au)
   .exact .inl Q
  .exact .inr (az _ I)
def xP{m z x:List (Int×iI)}(h:∀k,ε m k=(ε z k).or (ε x k)):fM m=Nq z x:=by
 funext k;unfold fM Nq;rw[h k];cases ε z k<;>rfl
def tw{k:Nat}{S:Τ}{s:D7}(hS:St k S)(hk:k+C6 s.gN<=2000)(h:(E2 S s).1=0):S.Ev.length<65536/\gD S.υ S.now s/\(E2 S s).2.Μ.length=s.gN.length:=by
 have Q:=jf h;have e:=oP h;have h3:=h;rw[e] at h3;have h4:=(qV hS.g.D9.1 (xo hS).g (λm hm=>(mE Q m hm).g) hk h3).2;rw[e];refine⟨Classical.byContradiction λq=>?_,Q,?_⟩
 .unfold E2 at h;rw[Ω D] at h;exact iJ (show(4:Int)=0 from h) ac
 .rw[h4];show 0+s.gN.length=_;omega
attribute [local irreducible] Β Y GP δ vi GF GE Z Ef C0 E CB GB V.Enters
def sC(Ξ s:Nat)(m n:List (Int×iI)) :
  Υ Λ 78 #[.map (some Ξ),.map (some s)] [ew gT iI.v Ξ m,ew gT iI.v s n] (λ_ Ε=>∃m',((∀k,ε m' k=(ε n k).or (ε m k))/\∀q∈m',q∈m\/q∈n)/\Ε = [ew gT iI.v Ξ m']):=by
 refine Υ.bd ?_;refine Β.cM E.swap ?_;refine Β.c8 (eN (b:=s) (kv:=gT) (Η:=iI.v) (m:=n)) ?_;intro hn;refine ML ?_;intros;refine Y.ef (Ef.j5 rfl) ac ?_;rintro _ _⟨Δ,rfl,rfl⟩;refine ML ?_;intros;refine Β.loop (α:=List (Int×iI)) (λz=>z.length<=n.length) (λz=>[(0,.map (some Ξ)),(7,ay Δ)]) (λz=>[fZ gT iI.v s n Δ z,ew gT iI.v Ξ (im m z)]) (λz=>n.length - z.length) [] (aD _) aG (E.refl _) ?_;intro z hz;refine ML ?_;intros;refine Y.ef (Ef.j8 rfl) ac ?_;rintro _ _ (⟨rfl,rfl,hp⟩|⟨p,rfl,rfl,A,J,T⟩)
 .refine ML ?_;intros;refine KX.c8 aC E.drop ⟨im m z,⟨λk=>?_,λq hq=>?_⟩,rfl⟩
  .rw[ou k z m ((hp.map _).nodup_iff.2 hn),ti hp hn]
  .rcases sq hq with I|I
   .exact .inl I
   .exact .inr (hp.mem_iff.1 I)
 refine ML ?_;intros;refine Y.ev (Z.j7 (done:=z) rfl rfl) ac ?_;refine ML ?_;intros;refine Y.No (Ef.d9 (Η:=iI.v) (e:=p.2) rfl rfl rfl rfl) ?_;rintro _ _ rfl;refine ML ?_;intros;refine⟨z++[p],by simp;omega,by simp;omega,aG,?_⟩;rw[show im m (z++[p])=ez (im m z) p.1 p.2 by simp[im]];exact aj
abbrev Eb:=Yr [.ev 4,.ef 5]
abbrev Ea:=Ys [.ef 6]
abbrev AR:=Yt [.ef 8]
abbrev AQ:=Yt [.ef 8]
abbrev AP:=Yt [.ef 8]
abbrev AO:=Yt [.ev 8,.ef 9,.ev 10,.ev 11,.ef 12]
abbrev AN:=Yt [.ev 8,.ef 9,.ef 10,.ev 11,.ev 12,.ef 13]
def Sj{φ ψ:Prop}(k:ψ)(h:Hid ψ->φ:=by intro k;(repeat (first|refine ab ?_|intro B8|refine Β.dr 100 8 Eb ?_|refine Β.dr 100 9 Ea ?_|refine Β.dr 100 10 AR ?_|refine Β.dr 100 11 AQ ?_|refine Β.dr 100 12 AP ?_|refine Β.dr 100 13 AO ?_|refine Β.dr 100 14 AN ?_));(repeat revert B8);exact Hid.out k):φ:=h ⟨k⟩
def kX{L:Ι}(b:Nat)(S:Τ)(k:Nat)(hS:St k S)(hc:S.υ.Ok)(h0:0<=S.now)(s:L9)(hs:RN s)(a3:s.gN.length<=s.iM)(hk:k+C6 s.m.gN<=2000)(hT:∀mx,TO mx) :
  Υ Λ 30 #[ay b,bC (eH s)] (aT b S::stM s::Nb s::L) (F7 (.tuple #[K (UP S s.m),K (E2 S s.m).1]) (aT b (bN S s.m)::stM s::Nb s::L)):=by
 obtain⟨b8,b9⟩:=hS.g.D9;have c5:=hS.g.Ev;have c1:=hS.g.Μ;refine Υ.bd ?_;refine Β.c9 (f:=jW b S) ?_;intro x;simp only[jW,E1,aq,av];refine Β.d7 ?_;intro hF;have d0:x.Ev.length=S.Ev.length:=by rw[<-hF.Ev];simp
 have c6:x.Μ.length=S.Μ.length:=by rw[<-hF.Μ];simp
 refine Sj ?_;intros;refine Y.cM E.drop ?_;refine Y.ca (FA b S k hS hc h0 x hF s hs a3 hk hT) ?_;rintro _ _ (⟨he,rfl,rfl⟩|⟨he,bc,s',z,rfl,⟨b4,hW⟩,rfl⟩)
 .have e1:bN S s.m=S:=Ο he;have e2:UP S s.m=0:=Ο he;rw[e1,e2];refine Sj ?_;intros;exact KX.a8 aC (je x hF) ⟨rfl,rfl⟩
 have e1:bN S s.m=fF S s.m:=Ω he;have e2:UP S s.m=cS S:=Ω he;obtain⟨o1,o2,o4⟩:=tw hS hk he;have c2:s.m.gN.length<=64:=o2.2.2.2.1.2
 have d1:z.Μ.length<=64:=by
  have:=congrArg List.length hW.Μ
  rw[ak] at this;omega
 have c0:0<z.Μ.length:=by
  have I:=congrArg List.length hW.Μ;rw[ak] at I;have Q:=o2.2.2.2.1.1;omega
 have a7:s'.r=cS S:=congrArg D7.r b4;rw[e1,e2,he];simp only[G9,E1,cW,cJ];refine Sj ?_;intros;refine Y.g9 (eN (b:=z.cs) (kv:=D6) (Η:=iI.v) (m:=z.ξ)) ?_;intro b2;refine Y.ef (Ef.j5 rfl) ac ?_;rintro _ _⟨Δ,rfl,rfl⟩;refine Sj ?_;intros
 refine Β.loop (α:=List ((Int×Int)×iI)) (λg=>g.length<=z.ξ.length) (λ_=>[(0,ay b),(6,ay bc),(23,ay Δ)])
  (λg=>fZ D6 iI.v z.cs z.ξ Δ g::ew D6 iI.v x.O (iF x.ξ g)::obj bc V3 (cW b s' z)::ew gT Qz z.ct z.iL::ew gT iI.v z.ci z.imp::ew gT iI.v z.cr z.ret::μ fw 11 gZ z.C4 z.F3 z.Μ::η (λp:(Int×Int)×iI=>G8 p.2) z.ξ::η OZ z.Μ::η (λp:Int×iI=>G8 p.2) z.imp::η (λp:Int×iI=>G8 p.2) z.ret::obj b SR (cJ S.D9 x)::ew gT Qz x.mt x.iL::Pt eH 7 jh x.K0 x.P3 x.Ev::Pt fw 11 gZ x.C4 x.F3 x.Μ::ew gT iI.v x.mi x.imp::ew gT iI.v x.mr x.ret::Oc x.υ::η (λp:(Int×Int)×iI=>G8 p.2) x.ξ::η iw x.Ev::η OZ x.Μ::η (λp:Int×iI=>G8 p.2) x.imp::η (λp:Int×iI=>G8 p.2) x.ret::stM s'::Nb s'::stM s::Nb s::L)
  (λg=>z.ξ.length - g.length) [] (aD _) aG ?_ ?_
 .simp only[iF,List.foldl_nil];exact aj
 intro g hg;simp only[cW,cJ];refine Sj ?_;intros;refine Y.ef (Ef.j8 rfl) ac ?_;rintro _ _ (⟨rfl,rfl,hp⟩|⟨p,rfl,rfl,c3,c4,T⟩)
 case inr =>
  have b3:iF x.ξ (g++[p])=R9 (iF x.ξ g) p:=by simp[iF]
  refine Sj ?_;intros;refine Y.ev (Z.j7 (done:=g) rfl rfl) ac ?_;simp only[D6,iI.v,al,bu];by_cases h0:p.2.D3.length=0
  .have a5:R9 (iF x.ξ g) p=I1 (iF x.ξ g) p.1:=Ω h0;refine Sj ?_;intros;refine δ.No (Ef.m7 rfl rfl) ?_;rintro _ _ rfl;refine Sj ?_;intros;refine⟨g++[p],by simp;omega,by simp;omega,aG,?_⟩;rw[b3,a5];exact aj
  .have a5:R9 (iF x.ξ g) p=ez (iF x.ξ g) p.1 p.2:=Ο h0;refine Sj ?_;intros;refine δ.No (Ef.d9 (Η:=iI.v) (e:=p.2) rfl rfl rfl rfl) ?_;rintro _ _ rfl;refine Sj ?_;intros;refine⟨g++[p],by simp;omega,by simp;omega,aG,?_⟩;rw[b3,a5];exact aj
 refine Sj ?_;intros;(first|refine δ.ef (Ef.call (Fg x.mt z.ct x.iL z.iL) rfl fT) ac ?_);rintro _ _⟨_,⟨m',b6,rfl⟩,hL⟩;simp only[aq,av] at hL;subst hL;refine Sj ?_;intros;(first|refine δ.ef (Ef.call (sC x.mi z.ci x.imp z.imp) rfl fT) ac ?_);rintro _ _⟨_,⟨a9,⟨b5,a4⟩,rfl⟩,hL⟩;simp only[aq,av] at hL;subst hL;refine Sj ?_;intros;(first|refine δ.ef (Ef.call (sC x.mr z.cr x.ret z.ret) rfl fT) ac ?_);rintro _ _⟨_,⟨b0,⟨b7,a6⟩,rfl⟩,hL⟩;simp only[aq,av] at hL;subst hL;refine Sj ?_;intros;refine δ.ef (Ef.l7 (Η:=fw) (ys:=z.Μ) rfl rfl rfl rfl rfl c0 (λe _=>ob e) D D) ac ?_;rintro _ _⟨a2,A,rfl,rfl⟩;refine Sj ?_;intros;refine δ.ef (Ef.l0 (Η:=eH) (e:=s') rfl rfl rfl rfl rfl aY (uT _) D D) ac ?_;rintro _ _⟨b1,J,rfl,rfl⟩;refine Sj ?_;intros;rw[a7];refine KX.a8 aC ?_ ⟨rfl,rfl⟩;refine E.trans ?_ (je (S:=fF S s.m) { x with ξ:=iF x.ξ g,iL:=m',imp:=a9,ret:=b0,Ev:=x.Ev++[s'],K0:=b1,P3:=J,Μ:=x.Μ++z.Μ,C4:=a2,F3:=A } ⟨hF.υ,hF.Ul,?_,?_,?_,?_,?_,?_,?_⟩)
 .simp only[E1,cJ,fF];refine(E.at (Φ:=Nb s') (E.refl _)).trans ?_;refine(E.at (Φ:=stM s') (E.refl _)).trans ?_;refine(E.g8 (Dt s') (eV kq)).trans ?_;refine(E.at (Φ:=η iw x.Ev) (E.refl _)).trans ?_;refine((E.a8 (E.d7 (f:=iw) (x:=s') rt)).trans (E.c9 rt)).trans ?_;refine(E.at (Φ:=η OZ z.Μ) (E.refl _)).trans ?_;refine(E.at (Φ:=η OZ x.Μ) (E.refl _)).trans ?_;refine(E.c9 xx).trans ?_;refine(E.at (Φ:=η (λp:(Int×Int)×iI=>G8 p.2) z.ξ) (E.refl _)).trans ?_;refine(E.at (Φ:=η (λp:(Int×Int)×iI=>G8 p.2) x.ξ) (E.refl _)).trans ?_;refine(E.c9 (f:=λp:(Int×Int)×iI=>G8 p.2) (λp=>ua p.2)).trans ?_;refine(E.g9 (l':=iF x.ξ g) (λq hq=>?_)).trans ?_
  .rcases pw hq with I|I
   .exact cx _ I
   .exact cj _ (hp.mem_iff.1 I.1)
  refine(E.at (Φ:=η (λp:Int×iI=>G8 p.2) z.imp) (E.refl _)).trans ?_;refine(E.at (Φ:=η (λp:Int×iI=>G8 p.2) x.imp) (E.refl _)).trans ?_;refine(E.c9 (f:=λp:Int×iI=>G8 p.2) (λp=>ua p.2)).trans ?_;refine(E.g9 (l':=a9) (λq hq=>List.mem_append.2 (a4 q hq))).trans ?_;refine(E.at (Φ:=η (λp:Int×iI=>G8 p.2) z.ret) (E.refl _)).trans ?_;refine(E.at (Φ:=η (λp:Int×iI=>G8 p.2) x.ret) (E.refl _)).trans ?_;refine(E.c9 (f:=λp:Int×iI=>G8 p.2) (λp=>ua p.2)).trans ?_;refine(E.g9 (l':=b0) (λq hq=>List.mem_append.2 (a6 q hq))).trans ?_;exact aj
 .intro a i;rw[qr _ _ _ ((hp.map _).nodup_iff.2 b2),ti hp b2];exact hW.ξ a i
 .intro q hq;rcases pw hq with I|I
  .exact hF.full q I
  .exact I.2
 .intro i;dsimp only;rw[b6,Ku];exact hW.iL i
 .show(x.Ev++[s']).map L9.m=S.Ev++[s.m.at (cS S)];rw[aQ,hF.Ev,<-b4];rfl
 .show(x.Μ++z.Μ).map (·.m)=S.Μ++(E2 S s.m).2.Μ;rw[aQ,hF.Μ];exact congrArg _ hW.Μ
 .show P7 (fM a9) (dm (S.Μ++(E2 S s.m).2.Μ));rw[xP b5];exact hW.imp
 .show P7 (fM b0) (jK (S.Μ++(E2 S s.m).2.Μ));rw[xP b7];exact hW.ret
end
section
open Go.V
def QF(f:Int->Int):List Int->Int
 | []=>0
 | a::l=>f a+QF f l
def pg{f g:Int->Int}:∀{Φ:List Int},(∀a∈Φ,f a=g a)->QF f Φ=QF g Φ
 | [],_=>rfl
 | a::Φ,h=>by
  have I:=h a au;have Q:=pg (Φ:=Φ) (λx M=>h x (az _ M));show f a+QF f Φ=g a+QF g Φ;rw[I,Q]
theorem sG{f:Int->Int}{u Ξ:Int}:∀{Φ:List Int},Φ.Nodup->QF (λa=>f a+(if a=u then Ξ else 0)) Φ=QF f Φ+(if u∈Φ then Ξ else 0)
 | [],_=>rfl
 | a::Φ,h=>by
  rw[eD] at h;have ih:=sG (f:=f) (u:=u) (Ξ:=Ξ) (Φ:=Φ) h.2;grind [QF]
def pY(ξ:Int->Int->π)(lp:List E3):Prop:=∀a i,ξ a i≠[]->∃f∈lp,f.to=a/\f.a1=i
structure QT (ξ:Int->Int->π) (iL:Int->Int) (fl:List E3):Prop where
 sum:∀i (Φ:List Int),Φ.Nodup->0∉Φ->QF (λa=>aW (ξ a i)) Φ<=iL i
 US:∀i,ξ 0 i=[]
 src:pY ξ fl
 top:∀i,iL i<=1099511627776
theorem QT.nn{ξ:Int->Int->π}{iL:Int->Int}{fl:List E3}(h:QT ξ iL fl)(i:Int):0<=iL i:=h.sum i [] dp ah
theorem QT.le{ξ:Int->Int->π}{iL:Int->Int}{fl:List E3}(h:QT ξ iL fl){a:Int}(ha:a≠0)(i:Int):aW (ξ a i)<=iL i:=by
 have:=h.sum i [a] cg ah
 grind [QF]
theorem GV{d:Int}{fl:List E3}{hy:Int->Bool}{s:D7}{W:Wk}{m:B1}(he:(ce d fl hy s W m).1=0) :
  NL d (fl++W.Μ) s W m=0/\dt W m<=1099511627776/\(ce d fl hy s W m).2.iL=Pr W.iL m.a1 (dt W m)/\(ce d fl hy s W m).2.Μ=W.Μ++[gH d fl.length hy s W m]/\(ce d fl hy s W m).2.ξ=if m.to=0 then Np hy W m else PS (Np hy W m) m.to m.a1 (bF (Np hy W m m.to m.a1) (fc d fl.length W,0,m.n)):=by
 grind [ce]
theorem wK{d:Int}{fl:List E3}{hy:Int->Bool}{s:D7}{W:Wk}{k:Nat}{m:B1}(h:Q8 d fl k W)(hm:P6 m)(hk:k+m.Γ.length<=2000)(hB:QT W.ξ W.iL (fl++W.Μ))(he:(ce d fl hy s W m).1=0) :
  (m.Ν≠0->m.n<=aW (W.ξ m.Ν m.a1))/\(∀a i,a≠0->aW ((ce d fl hy s W m).2.ξ a i)=aW (W.ξ a i)+(if a=m.Ν then(if i=m.a1 then -m.n else 0) else 0)+(if a=m.to then(if i=m.a1 then m.n else 0) else 0))/\(∀i,(ce d fl hy s W m).2.iL i=W.iL i+if i=m.a1 then Up m else 0)/\QT (ce d fl hy s W m).2.ξ (ce d fl hy s W m).2.iL (fl++(ce d fl hy s W m).2.Μ):=by
 obtain⟨e1,e2,e3,e4,e5⟩:=GV he;rw[e3,e4,e5];have hn:=hm.n;have a5:=hm.ne;have a2:m.Ν≠0->aW (xw hy W m)=aW (W.ξ m.Ν m.a1) - m.n:=λh0=>IZ (mixed:=hy m.a1) (h.ξ m.Ν m.a1) hm h0 e1
 have J:m.Ν≠0->m.n<=aW (W.ξ m.Ν m.a1):=λh0=>by
  have g1:=(uJ (hy:=hy) h hm D e1 m.Ν m.a1).D3;unfold Np PS at g1;rw[Ο h0,Ω ⟨rfl,rfl⟩] at g1;have:=vy g1
  omega
 have hG:∀a i,aW (Np hy W m a i)=aW (W.ξ a i)+(if m.Ν≠0/\a=m.Ν/\i=m.a1 then -m.n else 0):=λa i=>by
  unfold Np;grind [PS]
 have hS:∀a i,a≠0->aW ((if m.to=0 then Np hy W m else PS (Np hy W m) m.to m.a1 (bF (Np hy W m m.to m.a1) (fc d fl.length W,0,m.n))) a i)=aW (W.ξ a i)+(if a=m.Ν then(if i=m.a1 then -m.n else 0) else 0)+(if a=m.to then(if i=m.a1 then m.n else 0) else 0):=λa i ha=>by
  have g:=hG a i
  have e0:(if m.Ν≠0/\a=m.Ν/\i=m.a1 then -m.n else 0)=(if a=m.Ν then(if i=m.a1 then -m.n else 0) else 0):=by
   by_cases q1:a=m.Ν
   .omega
   .omega
  grind [PS,pG]
 have hT:∀i,Pr W.iL m.a1 (dt W m) i=W.iL i+if i=m.a1 then Up m else 0:=by grind [Pr,dt,Up]
 refine⟨J,hS,hT,⟨λi Φ hA h0=>?_,λi=>?_,?_,λi=>?_⟩⟩
 .rw[hT i];by_cases qi:i=m.a1
  case neg =>
   rw[Ο qi,ed];rw[pg (g:=λa=>aW (W.ξ a i)) ah];exact hB.sum i Φ hA h0
  rw[Ω qi]
  have hs:QF (λa=>aW ((if m.to=0 then Np hy W m else PS (Np hy W m) m.to m.a1 (bF (Np hy W m m.to m.a1) (fc d fl.length W,0,m.n))) a i)) Φ=QF (λa=>aW (W.ξ a i)) Φ+(if m.Ν∈Φ then -m.n else 0)+(if m.to∈Φ then m.n else 0):=by
   rw[pg (g:=λa=>(aW (W.ξ a i)+(if a=m.Ν then -m.n else 0))+(if a=m.to then m.n else 0)) ah];rw[sG (f:=λa=>aW (W.ξ a i)+(if a=m.Ν then -m.n else 0)) hA,sG (f:=λa=>aW (W.ξ a i)) hA]
  rw[hs];have hb:=hB.sum i Φ hA h0;by_cases f0:m.Ν=0
  .grind [Up]
  .have T:=J f0;by_cases fA:m.Ν∈Φ
   .grind [Up]
   .rw[Ο fA];have a3:aW (W.ξ m.Ν i)+QF (λa=>aW (W.ξ a i)) Φ<=W.iL i:=hB.sum i (m.Ν::Φ) ah ah;grind [Up]
 .have hg:Np hy W m 0 i=[]:=by
   unfold Np;split
   .exact hB.US i
   .rename_i f0;unfold PS;rw[Ο D];exact hB.US i
  grind [PS]
 .intro a i A
  have Κ:W.ξ a i≠[]->∃f∈fl++(W.Μ++[gH d fl.length hy s W m]),f.to=a/\f.a1=i:=λq=>by
   obtain⟨f,hf,e⟩:=hB.src a i q;grind
  have a4:Np hy W m a i≠[]->W.ξ a i≠[]:=λq Δ=>by
   unfold Np at q;grind [PS,aW]
  by_cases t0:m.to=0
  .grind
  .rw[Ο t0] at A;by_cases hq:a=m.to/\i=m.a1
   .exact⟨gH d fl.length hy s W m,cj _ ah,hq.1.symm,hq.2.symm⟩
   grind [PS]
 .unfold Pr;split
  .exact e2
  .exact hB.top i
inductive Sc:Τ->List D7->Τ->Prop
 | nil (S:Τ):Sc S [] S
 | cons {S S' : Τ} {s:D7} {ss:List D7}:(E2 S s).1=0->s.r=cS S->Sc (bN S s) ss S'->Sc S (s::ss) S'
def Sc.snoc{S' : Τ}{s:D7}:∀{ss:List D7} {S:Τ},Sc S ss S'->(E2 S' s).1=0->Sc S (ss++[s.at (cS S')]) (bN S' s)
 | [],_,.nil _,h=>.cons (s:=s.at (cS S')) h rfl (.nil _)
 | u::ss,S,.cons I Q h3,h=>.cons I Q (Sc.snoc h3 h)
def PK.acc{d:Int}{c:B4}{S:Τ}(h:PK d c S):Sc (L1 d c) S.Ev S:=by
 induction h with
 | zero=>exact .nil _
 | post I Q ih =>
  have e:(bN _ _).Ev=_:=congrArg Τ.Ev (Ω Q);rw[e];exact Sc.snoc (S:=L1 d c) ih Q
theorem Sc.pre:∀{ss:List D7} {S S' : Τ},Sc S ss S'->∃z,S'.Μ=S.Μ++z
 | [],_,_,.nil _=>⟨[],ah⟩
 | s::ss,S,S',.cons I Q h3=>by
  obtain⟨z,hz⟩:=h3.pre;obtain⟨w,hw⟩:=sr S s;grind
structure ac5 (n:Nat) (ξ:Int->Int->π) (iL:Int->Int) (t:List Int) (f:Int->Int->Int):Prop where
 len:t.length=n
 t:∀i:Nat,i<n->t[i]! = iL i
 f:∀a i,f a i=if a=0 then 0 else aW (ξ a i)
theorem IF(d:Int)(c:B4):QT (L1 d c).ξ (L1 d c).iL (L1 d c).Μ:=by
 refine⟨λi Φ _ _=>?_,λ_=>rfl,λa i h=>iJ rfl h,λ_=>by show(0:Int)<=1099511627776;omega⟩;show QF (λ_=>aW ([]:π)) Φ<=0
 have:∀Φ:List Int,QF (λ_=>aW ([]:π)) Φ=0:=λΦ=>by
  induction Φ with
  | nil=>rfl
  | cons a Φ ih =>
   grind [QF,aW]
 grind
def Vw:List Q4:=[⟨⟨#[103,111,108,100]⟩,false,false,true,0,0,0⟩,⟨⟨#[111,114,101]⟩,false,false,false,0,0,0⟩,⟨⟨#[100,117,115,116]⟩,false,true,false,0,0,0⟩,⟨⟨#[103,101,109]⟩,false,false,false,0,0,0⟩]
def I4:B4:=⟨Vw,[]⟩
def Ai(bi:Nat):K9:=⟨Vw,some ⟨bi,0,none⟩,4,none,0,none,0,none,0⟩
def Jh(bi:Nat):(Ai bi).hx:=⟨aV rfl⟩
attribute [local irreducible] Β Y GP δ vi GF GE Z Ef C0 E CB GB V.Enters
def vN{L:Ι}:Υ Λ 47 #[] L (λv Ε=>∃c:K9,v=bC c.cells/\(c.m=I4/\c.hx)/\Ε = Oc c::L):=by
 refine Υ.bd ?_;refine ML ?_;intros;rename_i b0 bi;refine KX.a8 (vs:=[.agg (Ai bi).cells.toArray]) (C9.cell rfl aY C9.nil) ?_ ⟨Ai bi,rfl,⟨rfl,Jh bi⟩,rfl⟩;exact(E.o0 (b:=bi) (Η:=dG) (sz:=7) Vw rfl (λ_ _=>rfl) (aV rfl)).trans (E.a8 E.drop)
end
section
open Go.V
def Τ.Vx(S:Τ)(x:Od):Τ:={ S with imp:=λi=>(fM x.imp i).D3,ret:=λi=>(fM x.ret i).D3 }
def TY.Zg{S:Τ}{x:Od}(h:TY S x):Vn (S.Vx x) x:=⟨h.υ,h.Ul,h.ξ,h.full,h.iL,h.Ev,h.Μ,λ_=>rfl,λ_=>rfl⟩
def jn{α:Type}[DecidableEq α]:∀{l m:List α},l.Nodup->(∀x∈l,x∈m)->l.length<=m.length
 | [],_,_,_=>aD _
 | x::l,m,hn,hs=>by
  obtain⟨I,Q⟩:=List.nodup_cons.1 hn;have M:=hs x au;have h3:=jn (m:=m.erase x) Q (λy U=>(List.mem_erase_of_ne (λe=>I (by rw[<-e];exact U))).2 (hs y (az _ U)));have h4:=List.length_erase_of_mem M;have h5:=List.length_pos_of_mem M;rw[aL];omega
def Wi(S:Τ)(a i:Int):Int:=aW (S.ξ a i)
def lM(p:(Int×Int)×iI):Hd:=(p.1.1,p.1.2,aW p.2.D3)
def CA{S:Τ}(h:S.Ok){a i:Int}:aW (S.ξ a i)≠0↔S.ξ a i≠[]:=by
 constructor
 .intro q e;exact q (by rw[e];rfl)
 .intro q;have:=lz (h.ξ a i).2 (List.length_pos_iff.2 q)
  omega
def IQ{S:Τ}{x:Od}(hS:S.Ok)(hF:Vn S x)(hn:(x.ξ.map (·.1)).Nodup){ys:List Hd}(U:gY QC (x.ξ.map lM) ys):Sr (Wi S) ys:=by
 have J:∀p∈x.ξ,S.ξ p.1.1 p.1.2=p.2.D3:=λp hp=>by
  rw[<-hF.ξ];unfold fM ε;rw[fo hn hp];rfl
 have A:(ys.map (λh=>(h.1,h.2.1))).Nodup:=by
  refine((U.1.map _).nodup_iff).2 ?_;rw[cu];exact hn
 constructor
 .have Q:=List.pairwise_map.1 A;refine(List.pairwise_and_iff.2 ⟨U.2,Q⟩).imp (λ {a b} h=>?_);obtain⟨q1,q2⟩:=h;rw[qQ] at q1;have q3:¬(a.1=b.1/\a.2.1=b.2.1):=λe=>q2 (by rw[e.1,e.2]);unfold Qm at q1 ⊢;omega
 .intro h;rw[U.1.mem_iff,List.mem_map];constructor
  .rintro⟨p,hp,rfl⟩;have e:=J p hp;refine⟨?_,?_⟩
   .show aW p.2.D3=aW (S.ξ p.1.1 p.1.2);rw[e]
   .show aW p.2.D3≠0;rw[<-e];refine(CA hS).2 ?_;rw[e];exact hF.full p hp
  .rintro⟨e1,e2⟩;have h3:S.ξ h.1 h.2.1≠[]:=(CA hS).1 (by rw[e1] at e2;exact e2);have h4:=hF.ξ h.1 h.2.1;unfold fM at h4;cases hg:ε x.ξ (h.1,h.2.1) with
   | none =>
    rw[hg] at h4;exact iJ h4.symm h3
   | some s =>
    rw[hg] at h4;refine⟨((h.1,h.2.1),s),bR hg,?_⟩;obtain⟨a,i,n⟩:=h;show(a,i,aW s.D3)=(a,i,n);have h5:s.D3=S.ξ a i:=h4;rw[h5];have h6:n=aW (S.ξ a i):=e1;rw[h6]
def HV{S:Τ}{x:Od}(hS:pY S.ξ S.Μ)(hF:Vn S x)(hn:(x.ξ.map (·.1)).Nodup):x.ξ.length<=S.Μ.length:=by
 have h:=jn (m:=S.Μ.map (λf=>(f.to,f.a1))) hn (λk hk=>by
  obtain⟨p,hp,rfl⟩:=H8 hk
  have e:S.ξ p.1.1 p.1.2=p.2.D3:=by
   rw[<-hF.ξ];unfold fM ε;rw[fo hn hp];rfl
  obtain⟨f,hf,e1,e2⟩:=hS p.1.1 p.1.2 (by rw[e];exact hF.full p hp);exact List.mem_map.2 ⟨f,hf,by rw[e1,e2]⟩)
 rw[ak,ak] at h;exact h
def RM.ok{k:Nat}{S:Τ}(h:RM k S)(hk:k<=4096):S.Ok:=⟨h.D9,h.Ev,h.Μ,λa i=>⟨aO (h.ξ a i).len hk,(h.ξ a i).D3⟩,h.iL⟩
def Jy:P7 (fM ([]:List (Int×iI))) []:=HY
attribute [local irreducible] Β Y GP δ vi GF GE Z Ef C0 E CB GB V.Enters
abbrev DY:=Yr [.ev 5,.ev 6,.ev 7,.ev 8,.ef 4,.ef 9,.ef 10,.ef 11,.ev 12]
def Sz{φ ψ:Prop}(k:ψ)(h:Hid ψ->φ:=by intro k;(repeat (first|refine ab ?_|intro B8|refine Β.dr 17 1 DY ?_));(repeat revert B8);exact Hid.out k):φ:=h ⟨k⟩
def BL{L:Ι}(x y:Hd):Υ Λ 60 #[bC (fS x),bC (fS y)] L (F7 (K (QC x y)) L):=by
 refine Υ.bd ?_;refine Sz ?_;intros;refine δ.cr (kn x.1 y.1) ?_;refine Sz ?_;intros;refine δ.cr (kn x.2.1 y.2.1) ?_;refine Sz ?_;intros;rename_i bc;refine δ.cM (E.d9 (Η:=eU .i64) (sz:=1) (G:=[Pd x.1 y.1,Pd x.2.1 y.2.1]) rfl rfl (λ_ _=>rfl) cg) ?_;refine δ.cr (pE (some ⟨bc,0,none⟩) 2 (Pd x.1 y.1) (Pd x.2.1 y.2.1)) ?_;refine Sz ?_;intros;exact KX.en ⟨rfl,rfl⟩
def zi{ζ cap:Nat}{ad:OA}{G:List Hd}(A:G.length<4611686018427387904) :
  Υ Λ 59 #[ae ad G.length cap,.func (.func 60) #[] #[]] [μ fS 3 ζ ad cap G] (λv Ε=>v=.tuple #[]/\∃ys,gY QC G ys/\Ε = [μ fS 3 ζ ad cap ys]) :=
 Υ.a8 (ρ:=Tryz.Xi) Tryz.Y9 (k:=3) Tryz.isAgg73 Tryz.sizeOf73 (λ_=>rfl) wP (Lc:=[]) QC CK YU YV.1 (λ_ _ _=>trivial) (λx y=>(BL (L:=[]) x y).mono (λ_ _ h=>h.1)) A
abbrev DZ:=Ys [.ef 6,.ev 7,.ef 8,.ef 9,.ev 10]
def SD{φ ψ:Prop}(k:ψ)(h:Hid ψ->φ:=by intro k;(repeat (first|refine ab ?_|intro B8|refine Β.dr 35 5 DZ ?_));(repeat revert B8);exact Hid.out k):φ:=h ⟨k⟩
def EO{L:Ι}(b:Nat)(S:Τ)(x:Od)(hF:Vn S x)(hO:S.Ok)(hS:pY S.ξ S.Μ)(b4:S.Μ.length<=100000) :
  Υ Λ 21 #[ay b] (obj b SR (cJ S.D9 x)::ew D6 iI.v x.O x.ξ::η (λp:(Int×Int)×iI=>G8 p.2) x.ξ::L) (λv Ε=>∃ad cap hs,v=ae ad hs.length cap/\(Sr (Wi S) hs/\hs.length<=4194304)/\Ε = μ fS 3 Vr ad cap hs::obj b SR (cJ S.D9 x)::ew D6 iI.v x.O x.ξ::η (λp:(Int×Int)×iI=>G8 p.2) x.ξ::L):=by
 refine Υ.bd ?_;simp only[cJ];refine Β.c8 (eN (b:=x.O) (m:=x.ξ) (kv:=D6) (Η:=iI.v)) ?_;intro J;have b1:=HV hS hF J;refine SD ?_;intros;refine Y.ev (Z.TM rfl) ac ?_;refine SD ?_;intros;refine Y.ef (Ef.j7 fS ((0,0,0):Int×Int×Int) rfl rfl rfl ac D D D) ac ?_;rintro _ _⟨bs,rfl,rfl⟩;rw[show List.replicate (0:Int).toNat ((0,0,0):Int×Int×Int)=[] from rfl];refine SD ?_;intros;refine Y.ef (Ef.j5 rfl) ac ?_;rintro _ _⟨Δ,rfl,rfl⟩;refine SD ?_;intros;refine Β.loop (α:=OA×Nat×List ((Int×Int)×iI)) (λz=>z.2.2.length<=x.ξ.length) (λz=>[(3,ae z.1 (z.2.2.map lM).length z.2.1),(16,ay Δ)]) (λz=>fZ D6 iI.v x.O x.ξ Δ z.2.2::μ fS 3 Vr z.1 z.2.1 (z.2.2.map lM)::obj b SR (cJ S.D9 x)::η (λp:(Int×Int)×iI=>G8 p.2) x.ξ::L) (λz=>x.ξ.length - z.2.2.length) (some ⟨bs,0,none⟩,(x.ξ.length:Int).toNat,[]) (aD _) aG (E.refl _) ?_;rintro⟨ad,cap,done⟩ a9;dsimp only at a9 ⊢;have b6:(done.map lM).length=done.length:=by simp
 refine SD ?_;intros;refine Y.ef (Ef.j8 rfl) ac ?_;rintro _ _ (⟨rfl,rfl,hp⟩|⟨p,rfl,rfl,a5,b7,b5⟩)
 .have b0:=hp.length_eq;refine SD ?_;intros;(first|refine Y.ef (Ef.call (zi (ζ:=Vr) (ad:=ad) (cap:=cap) (G:=done.map lM) D) rfl fT) ac ?_);rintro _ _⟨_,⟨rfl,ys,a2,rfl⟩,hL⟩;simp only[aq,av] at hL;subst hL;refine SD ?_;intros;have a3:gY QC (x.ξ.map lM) ys:=⟨a2.1.trans (hp.map lM),a2.2⟩;have b3:=a2.1.length_eq;refine KX.a8 aC ?_ ⟨ad,cap,ys,by rw[b3];rfl,⟨IQ hO hF J a3,D⟩,rfl⟩;refine(E.at (Φ:=fZ D6 iI.v x.O x.ξ Δ done) E.j9).trans ?_;exact aj
 have b2:p.2.D3=S.ξ p.1.1 p.1.2:=by
  rw[<-hF.ξ];unfold fM ε;rw[fo J a5];rfl
 obtain⟨a7,a4⟩:=hO.ξ p.1.1 p.1.2;rw[<-b2] at a7 a4;refine Y.cM (E.at (Φ:=η (λp:(Int×Int)×iI=>G8 p.2) x.ξ) (E.d8 (x:=p) a5)) ?_;refine SD ?_;intros;refine Y.ev (Z.j7 (done:=done) rfl rfl) ac ?_;simp only[D6,iI.v,al,bu];refine SD ?_;intros;refine δ.cr (lG p.2.ad _ p.2.cap p.2.D3 rfl D a4) ?_;refine SD ?_;intros;refine δ.ef (Ef.a8 (Η:=fS) (e:=lM p) rfl rfl rfl rfl rfl aY (wP _) D D) ac ?_;rintro _ _⟨a6,A,rfl,rfl⟩;refine SD ?_;intros;refine⟨(a6,A,done++[p]),by dsimp only;simp;omega,by dsimp only;simp;omega,?_,?_⟩
 .dsimp only;rw[aQ];exact aG
 .dsimp only;rw[aQ,show List.map lM [p]=[lM p] from rfl];exact aj
def EJ{L:Ι}(d:Int)(c:K9)(J:0<=d/\d<12)(hB:c.hx)(h:Tq c.m):Υ Λ 46 #[K d,bC c.cells] (Oc c::co::L) (λv Ε=>∃b,v=.tuple #[ay b,K 0]/\Ε = aT b (L1 d c.m)::Oc c::co::L):=by
 obtain⟨I,Q⟩:=J;refine Υ.bd ?_;simp only[K9.cells];refine ML ?_;intros;rename_i b3;refine Y.cM (Ε:=Oc c::co::obj b3 TQ c.cells::L) (by simp only[K9.cells];exact aj) ?_;refine Y.cr (Hn c h) ?_;simp only[K9.cells];refine ML ?_;intros;refine Y.cM (Ε:=Oc c::co::obj b3 TQ c.cells::L) (by simp only[K9.cells];exact aj) ?_;refine Y.ca (qj c hB) ?_;rintro _ _⟨c',rfl,A,rfl⟩;simp only[K9.cells];refine Y.ef (Ef.c8 D6 iI.v (.inl rfl)) ac ?_;rintro _ _⟨b1,rfl,rfl⟩;refine Y.ef (Ef.c8 gT Qz (.inl rfl)) ac ?_;rintro _ _⟨b2,rfl,rfl⟩;refine Y.ef (Ef.c8 gT iI.v (.inl rfl)) ac ?_;rintro _ _⟨b4,rfl,rfl⟩;refine Y.ef (Ef.c8 gT iI.v (.inl rfl)) ac ?_;rintro _ _⟨b5,rfl,rfl⟩;refine ML ?_;intros;rename_i b6;refine KX.a8 aC ?_ ⟨b6,rfl,rfl⟩;refine E.trans ?_ (je (S:=L1 d c.m) ⟨c',b1,b2,b4,b5,[],[],[],[],[],none,0,[],none,0⟩ ⟨A,K9.a8 A hB,λ_ _=>rfl,(λ_ h=>by cases h),λ_=>rfl,rfl,rfl,Jy,Jy⟩);simp only[E1,cJ,L1];refine(E.c8 eH 7 jh).trans (E.Vl.trans ((E.c8 fw 11 gZ).trans (E.Vl.trans ?_)));refine(E.c7 (λp:(Int×Int)×iI=>G8 p.2)).trans ((E.c7 iw).trans ((E.c7 OZ).trans ((E.c7 (λp:Int×iI=>G8 p.2)).trans ((E.c7 (λp:Int×iI=>G8 p.2)).trans ?_))));exact aj
