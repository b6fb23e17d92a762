/- Lemmas. -/
import Derived.Test.YtlgpgjdggilkgaaGreatDoorErbp
set_option linter.all false
set_option maxHeartbeats 16000000
namespace Go.Proofs.YtlgpgjdggilkgaaGreatDoor
section
open Go.V
abbrev O5:Nat:=37
abbrev O6:Nat:=62
def Dq{s:ByteArray}(h:(1<=s.size/\s.size<=16)/\fT s 0=3/\∀i:Nat,i<s.size->fT s i=3\/fT s i=4\/fT s i=5):OU s:=⟨h.1,h.2.1,h.2.2⟩
def yZ:Of H9:=by
  refine⟨by decide,?_,by decide⟩;intro x K;simp only[H9,Qx,dL,aD,or_false] at K;rcases K with rfl|rfl|rfl|rfl<;>exact⟨Dq (by decide +kernel),by decide,by decide⟩
def Ke:eu:=⟨0,0,[],[],[]⟩
structure QD (l:List Int) (i:Nat) (s:F5):Prop where
  d:s.d=(i:Int)
  n:s.n.m=Ke
  sp:Lp i 8 s.S
  z:l=[]->s.S=I2 i H9
structure O7 (n:Int) (l:List Int) (W:E4):Prop where
  len:(W.ν.length:Int)=n
  sd:∀i:Nat,i<W.ν.length->QD l i W.ν[i]!
  T:W.ia=[]
  G:W.G=0
  B9:W.B9=[]
def tY{d Q:Int}{i:Nat}{S:Χ}(h:Lp d i S):Lf H9 d Q Ke S :=
  ⟨⟨h.Ik,⟨co 0,by show(0:Int)<=gm S;omega⟩,List.nodup_nil,λp hp=>iW hp aD,λp hp=>iW hp aD⟩,
   ⟨co 0,List.nodup_nil,List.nodup_nil,λp hp=>iW hp aD,λp hp=>iW hp aD,λp hp=>iW hp aD⟩,
   λk x K=>by cases K⟩
def O7.wd{n:Int}{l:List Int}{W:E4}(h:O7 n l W)(hn:1<=n/\n<=12):IX n 0 8 0 0 W.m:=by
  refine⟨hn,by simp only[E4.m,ah];exact h.len,λi hi=>?_,λm hm=>?_,?_,?_,?_⟩
  . simp only[E4.m,ah] at hi
    have e:W.m.IW[i]! = W.ν[i]!.m:=dY (f:=F5.m) hi
    have hs:=h.sd i hi
    rw[e]
    refine⟨?_,?_,?_⟩
    . show Lf H9 i n W.ν[i]!.n.m W.ν[i]!.S
      rw[hs.n]
      exact tY hs.sp
    . show gm W.ν[i]!.S+E9 W.ν[i]!.n.m<=8
      rw[hs.n]
      have:=hs.sp.k
      show gm W.ν[i]!.S+0<=8
      omega
    . show W.ν[i]!.n.m.ω<=0
      rw[hs.n]
      exact co 0
  . simp only[E4.m,h.T] at hm
    cases hm
  . simp only[E4.m,h.T]
    exact au _
  . show 0<=W.G/\W.G<=0
    rw[h.G]
    decide
  . show W.B9.length<=0
    rw[h.B9]
    exact au _
attribute [local irreducible] Δ R GP Ο h2 GF GE O Ef A8 A CB GB V.Enters bF Ix
def rf{L:LH}(n:Int)(hn:1<=n/\n<=12)(M:OA)(m c:Nat)(l:List Int)[hrd:C7 L M Int (a0 .i64) 1 l](hm:m=l.length)(hc:m<=c)(K:∀x∈l,id x) :
    Λ Ε 11 #[E n,ae M m c] (bO::L) (λv Y=>∃wb W,v=.tuple #[al wb,.bool true]/\O7 n l W/\Y = E6 wb n W (bO::L)):=by
  subst hm;refine Λ.bd ?_;refine Ih ?_;intros;rename_i bw;refine Δ.loop (α:=Nat×(OA×Nat)×(OA×Nat)×List F5) (λg=>((g.1:Int)<=n/\g.2.2.2.length=g.1)/\∀i,i<g.2.2.2.length->QD l i g.2.2.2[i]!) (λg=>[(0,E n),(1,ae M l.length c),(6,al bw),(7,E (g.1:Int))]) (λg=>obj bw KB [ae g.2.1.1 g.2.2.2.length g.2.1.2,ae g.2.2.1.1 g.2.2.2.length g.2.2.1.2,ae none 0 0,E 0,ae none 0 0]::Υ cI 1 O5 g.2.1.1 g.2.1.2 (g.2.2.2.map (·.lb))::Υ cI 1 O6 g.2.2.1.1 g.2.2.1.2 (g.2.2.2.map (·.nb))::ew (Il n) g.2.2.2::bO::L) (λg=>n.toNat - g.1) (0,(none,0),(none,0),[]) ⟨⟨by dsimp only;omega,rfl⟩,λi hi=>iW hi (Nat.not_lt_zero i)⟩ aA ?_ ?_
  . dsimp only
    refine(A.j0 (Il n)).trans ((A.c8 cI 1 O6).trans ((A.c8 cI 1 O5).trans ?_))
    simp only[aY,aX]
    exact ag
  rintro⟨i,⟨ad,fe⟩,⟨F4,IM⟩,ν⟩ ⟨⟨hi,a5⟩,a7⟩;dsimp only at hi a5 a7 ⊢;have b5:(ν.map (·.lb)).length=i:=by rw[ah];exact a5
  have b7:(ν.map (·.nb)).length=i:=by rw[ah];exact a5
  by_cases b6:(i:Int)<n
  case neg =>
    refine Ih ?_;intros;refine KX.a8 aw ?_ ⟨bw,⟨ν,ad,fe,F4,IM,[],none,0,0,[],none,0⟩,rfl,⟨by dsimp only;omega,a7,rfl,rfl,rfl⟩,rfl⟩;refine(A.at (Μ:=Υ cI 1 O5 ad fe (ν.map (·.lb))) A.JC).trans ?_;refine(A.at (Μ:=Υ cI 1 O6 F4 IM (ν.map (·.nb))) A.JC).trans ?_;refine(A.l8 aV 3 hy).trans ((A.a8 cV).trans ((A.c8 (a0 .i64) 1 kR).trans ?_));simp only[E6,G9,aX];exact ag
  refine Ih ?_;intros;refine R.ca (sF) ?_;rintro _ _⟨cv,rfl,⟨b1,b3⟩,rfl⟩;refine Ih ?_;intros;refine R.υ (Y:=JU cv::bO::(obj bw KB [ae ad ν.length fe,ae F4 ν.length IM,ae none 0 0,E 0,ae none 0 0]::Υ cI 1 O5 ad fe (ν.map (·.lb))::Υ cI 1 O6 F4 IM (ν.map (·.nb))::ew (Il n) ν::L)) ag ?_;refine R.ca (BK (i:Int) cv ⟨B,B⟩ b3 (by rw[b1];exact yZ)) ?_;rintro _ _⟨lb,rfl,rfl⟩;rw[b1];refine Ih ?_;intros;generalize hj:min (l.length:Int) (16*(i:Int))=j at *;have c2:0<=j/\j<=l.length:=B;refine Ih ?_;intros;refine R.ca (uy (hrd:=C7.drop (D:=l) inferInstance hc j.toNat) (Jk M c 1 j.toNat) (l.length - j.toNat) (c - j.toNat) (l.drop j.toNat) (by rw[ck]) (λx h=>K x (dC h))) ?_;rintro _ _⟨B8,IT,ss,rfl,⟨⟨c4,b9⟩,c0⟩,rfl⟩;have hz:l=[]->ss=[]:=λq=>b9 (by rw[q,List.drop_nil]);refine Ih ?_;intros;refine Δ.loop (α:=Nat×Χ) (λg=>g.1<=ss.length/\Lp i g.1 g.2/\(l=[]->g.2=I2 i H9)) (λg=>[(0,E n),(1,ae M l.length c),(6,al bw),(7,E (i:Int)),(8,al lb),(10,ae B8 ss.length IT),(11,E (g.1:Int))]) (λg=>aN lb g.2::Υ da 7 gJ B8 IT ss::Ρ eJ ss::obj bw KB [ae ad ν.length fe,ae F4 ν.length IM,ae none 0 0,E 0,ae none 0 0]::Υ cI 1 O5 ad fe (ν.map (·.lb))::Υ cI 1 O6 F4 IM (ν.map (·.nb))::ew (Il n) ν::bO::L) (λg=>ss.length - g.1) (0,I2 i H9) ⟨aC _,Lp.zero ⟨B,B⟩,λ_=>rfl⟩ aA (by dsimp only;exact ag) ?_;rintro⟨k,S⟩ ⟨hk,hI,b0⟩;dsimp only at hk hI b0 ⊢;by_cases a2:k<ss.length
  . have b4:(k:Int).toNat=k:=B
    obtain⟨to,x,nn,cU,a9,b8⟩:=c0 _ (bA a2)
    have a6:=bA a2
    have c1:¬l=[]:=λq=>by
      rw[hz q] at a2;exact iW a2 (Nat.not_lt_zero _)
    generalize hsk:ss[k]! = s at *
    obtain⟨p1,p2⟩:=hI.post B b8 cU
    rw[<-a9] at p1 p2
    have hin:=uz to x nn cU
    rw[<-a9] at hin
    have c3:=hI.k
    refine Ih ?_;intros;rw[b4,hsk]
    refine R.υ (A.at (Μ:=Ρ eJ ss) ((A.d8 (f:=eJ) a6).trans A.OM)) ?_
    refine R.υ (Y:=aN lb S::stM s::IK s::(Υ da 7 gJ B8 IT ss::Ρ eJ ss::obj bw KB [ae ad ν.length fe,ae F4 ν.length IM,ae none 0 0,E 0,ae none 0 0]::Υ cI 1 O5 ad fe (ν.map (·.lb))::Υ cI 1 O6 F4 IM (ν.map (·.nb))::ew (Il n) ν::bO::L)) ag ?_
    refine R.ca (jQ lb S (gm S) hI.Ik.a (by rw[hI.Ik.ζ];exact hI.Ik.ok) hI.Ik.now s hin.1 hin.2 (by rw[a9];show gm S+1<=2000;omega) qY) ?_
    rw[p1]
    rintro _ _⟨rfl,rfl⟩
    refine Ih ?_;intros;refine⟨(k+1,bP S s.m),⟨by dsimp only;omega,p2,λq=>iW q c1⟩,by dsimp only;omega,?_,by exact ag⟩
    dsimp only
    rw[bC k]
    exact aA
  refine Ih ?_;intros;refine R.ca (ER lb (i:Int) n B b6 hn.2) ?_;rintro _ _⟨nb,mb,mp,mr,rfl,rfl⟩;simp only[a1,cw];refine Ih ?_;intros;refine R.ef (Ef.a8 (Β:=cI) (e:=lb) rfl rfl rfl (by rw[ah]) rfl aS (tA _) B B) ac ?_;rintro _ _⟨a3,r,rfl,rfl⟩;refine Ih ?_;intros;refine R.ef (Ef.a8 (Β:=cI) (e:=nb) rfl rfl rfl (by rw[ah]) rfl aS (tA _) B B) ac ?_;rintro _ _⟨a4,I,rfl,rfl⟩;refine Ih ?_;intros;have b2:=hI.mono (B:k<=8);refine⟨(i+1,(a3,r),(a4,I),ν++[⟨nb,lb,(i:Int),⟨mb,mp,mr,0,0,[],[],[]⟩,S⟩]),⟨⟨by dsimp only;omega,by simp[a5]⟩,λq hq=>?_⟩,by dsimp only;omega,?_,?_⟩
  . dsimp only at hq ⊢
    rw[aq,bu] at hq
    by_cases h:q<ν.length
    . rw[C5 (by rw[aq];omega),List.getElem_append_left h,<-C5 h]
      exact a7 q h
    . have e:q=ν.length:=B
      subst e
      rw[C5 (by rw[aq,bu];omega),dP (au _)]
      simp only[Nat.sub_self,List.getElem_singleton]
      rw[a5]
      exact⟨rfl,rfl,b2,b0⟩
  . dsimp only
    rw[bC i]
    exact aA
  . dsimp only
    simp only[aL,aF,aY,aq,ah,bu]
    refine A.trans (cq:=a1 nb lb (i:Int) n ⟨mb,mp,mr,0,0,[],[],[]⟩ (aN lb S::(ew (Il n) ν::obj bw KB [ae a3 (ν.length+1) r,ae a4 (ν.length+1) I,ae none 0 0,E 0,ae none 0 0]::Υ cI 1 O5 a3 r (ν.map (·.lb)++[lb])::Υ cI 1 O6 a4 I (ν.map (·.nb)++[nb])::bO::L))) (by simp only[a1,cw];exact ag) ?_
    refine(A.f8 (Μ:=a1 nb lb (i:Int) n ⟨mb,mp,mr,0,0,[],[],[]⟩ [aN lb S])).trans ?_
    refine(A.k8 (f:=Il n) (x:=(⟨nb,lb,(i:Int),⟨mb,mp,mr,0,0,[],[],[]⟩,S⟩:F5))).trans ?_
    exact ag
end
section
open Go.V
noncomputable def Lq(W:D2)(k:Int):D2:=W.send k (dK k W.G (W.nd k).1 (W.nd k).2)
noncomputable def Me(W:D2):Nat->D2
  | 0=>W
  | k+1=>Lq (Me W k) (k:Int)
noncomputable def J3(Q:Int)(W:D2):D2:=match W.T with
  | []=>W
  | m::T=>if 0<=m.to/\m.to<Q then({ W with T:=T }:D2).send m.to (cS m.to Q m W.G (W.nd m.to).1 (W.nd m.to).2) else { W with T:=T }
noncomputable def Lr(Q:Int)(W:D2):Nat->D2
  | 0=>W
  | k+1=>J3 Q (Lr Q W k)
noncomputable def uP(Q:Int)(W:D2):D2:=Lr Q (Me W Q.toNat) 400
noncomputable def ip(Q:Int)(W:D2):Nat->D2
  | 0=>W
  | Θ+1=>uP Q (ip Q W Θ)
def rO(Q:Int)(ξ bU:Nat)(W:D2):Prop:=(∀k:Nat,(k:Int)<=Q->IX Q 63 1900 ξ bU (Me W k))/\∀k:Nat,k<=400->IX Q 63 1900 ξ bU (Lr Q (Me W Q.toNat) k)
def lO{Q:Int}{W:D2}{j:Nat}(h:(Lr Q W j).T=[]):∀k,j<=k->Lr Q W k=Lr Q W j
  | 0,hk=>by rw[show j=0 by omega]
  | k+1,hk=>by
    by_cases e:j=k+1
    . rw[e]
    . have ih:=lO h k B
      show J3 Q (Lr Q W k)=_
      rw[ih]
      unfold J3
      rw[h]
def ML.trans{Μ cq C:E4}(J:ML Μ cq)(U:ML cq C):ML Μ C:=Eq.trans U J
def ML.d{Μ cq:E4}(h:ML Μ cq)(ha:N2 Μ):N2 cq:=λi hi=>by
  have hl:cq.ν.length=Μ.ν.length:=by simpa using congrArg List.length h
  have e:=congrArg (λl:List (Nat×Nat×Int)=>l[i]!) h;rw[dY (f:=λs:F5=>(s.lb,s.nb,s.d)) hi,dY (f:=λs:F5=>(s.lb,s.nb,s.d)) B] at e;have e2:=congrArg (λp:Nat×Nat×Int=>p.2.2) e;dsimp only at e2;rw[e2];exact ha i B
def ML.len{Μ cq:E4}(h:ML Μ cq):cq.ν.length=Μ.ν.length:=by simpa using congrArg List.length h
def E4.c8{W:E4}{Q:Int}{c b ξ bU:Nat}(h:IX Q c b ξ bU W.m):(W.ν.length:Int)=Q/\W.ia.length<=ξ:=by
  have J:=h.len;have U:=h.ml;simp only[E4.m,ah] at J U;exact⟨J,U⟩
attribute [local irreducible] Δ R GP Ο h2 GF GE O Ef A8 A CB GB V.Enters bF Ix cS dK
abbrev Bs:=Uy [.ev 13,.ev 14,.ev 15,.ef 16,.ef 17,.ev 18,.ev 19,.ef 20]
abbrev yw:=Uy []
abbrev yv:=Uz [.ev 17,.ef 18,.ef 19,.ev 20,.ev 21,.ef 22]
def cT{φ ψ:Prop}(k:ψ)(h:Hid ψ->φ:=by intro k;(with_reducible apply Δ.a8);first|refine Δ.dr 103 6 Bs (Hid.out k)|refine Δ.dr 103 12 yw (Hid.out k)|refine Δ.dr 103 13 yv (Hid.out k)):φ:=h ⟨k⟩
def Tn{φ ψ:Prop}(k:ψ)(h:Hid ψ->φ:=by intro k;(repeat (first|refine aa ?_|intro sh|refine cT ?_));(repeat revert sh);exact Hid.out k):φ:=h ⟨k⟩
def xy{L:LH}(wb:Nat)(Q:Int)(W0:E4)(b5:N2 W0)(r:Nat)(hr:r<=1000){ξ bU:Nat}(hM:ξ<=100000000000)(h0:IX Q 63 1900 ξ bU W0.m)(hS:∀Θ,Θ<r->rO Q ξ bU (ip Q W0.m Θ)) :
    Λ Ε 22 #[al wb,E (r:Int)] (E6 wb Q W0 L) (λv Y=>∃W',v=.tuple #[]/\(W'.m=ip Q W0.m r/\ML W0 W')/\Y = E6 wb Q W' L):=by
  have U:=h0.K4;refine Λ.bd ?_;refine Tn ?_;intros;refine Δ.loop (α:=Nat×E4) (λg=>g.1<=r/\g.2.m=ip Q W0.m g.1/\ML W0 g.2) (λg=>[(0,al wb),(1,E (r:Int)),(4,E (g.1:Int))]) (λg=>E6 wb Q g.2 L) (λg=>r - g.1) (0,W0) ⟨aC _,rfl,rfl⟩ aA (A.refl _) ?_;rintro⟨Θ,W1⟩ ⟨g3,c1,a3⟩;dsimp only at g3 c1 a3 ⊢;by_cases f7:Θ<r
  case neg =>
    have e:Θ=r:=B;subst e;refine Tn ?_;intros;exact KX.c8 aw (A.refl _) ⟨W1,rfl,⟨c1,a3⟩,rfl⟩
  obtain⟨sa,sd⟩:=hS Θ f7;rw[<-c1] at sa sd;have g0:(Θ:Int)<(r:Int):=B;refine Tn ?_;intros;refine Δ.loop (α:=Nat×E4) (λg=>(g.1:Int)<=Q/\g.2.m=Me W1.m g.1/\ML W1 g.2) (λg=>[(0,al wb),(1,E (r:Int)),(4,E (Θ:Int)),(5,E (g.1:Int))]) (λg=>E6 wb Q g.2 L) (λg=>Q.toNat - g.1) (0,W1) ⟨by dsimp only;omega,rfl,rfl⟩ aA (A.refl _) ?_;rintro⟨k,W⟩ ⟨hk,hW,c4⟩;dsimp only at hk hW c4 ⊢;have hI:=sa k hk;rw[<-hW] at hI;obtain⟨f6,J⟩:=E4.c8 hI;have g4:=(a3.trans c4).d b5;by_cases d2:(k:Int)<Q
  . have d1:(k:Int).toNat=k:=B
    have c3:k<W.ν.length:=B
    obtain⟨s,hs⟩:∃s,W.ν[k]! = s:=⟨_,rfl⟩
    have e7:s.d=(k:Int):=by have:=g4 k c3;rw[hs] at this;exact this
    have e4:W.m.nd (k:Int)=(s.n.m,s.S):=E4.a8 B (by rw[d1];exact hs)
    have a2:(W.ν.map (·.nb))[(k:Int).toNat]! = s.nb:=by
      rw[<-hs,d1];exact dY (f:=λs:F5=>s.nb) c3
    have c0:=hI.at (i:=(k:Int)) ⟨B,d2⟩
    rw[e4] at c0
    have e2:=c0.bd
    have e5:=lv (G:=W.G) (b:=1900) ⟨B,d2⟩ hI.K4.2 c0.a e2 ac
    have g2:(W.ν.map (·.nb)).length=W.ν.length:=ah _
    dsimp only at e2 e5
    have d6:Me W1.m (k+1)=Lq W.m (k:Int):=by
      show Lq (Me W1.m k) (k:Int)=_;rw[hW]
    have f0:Lq W.m (k:Int)=W.m.send (k:Int) (dK (k:Int) W.G s.n.m s.S):=by
      unfold Lq;rw[e4];rfl
    simp only[E6,G9]
    have d3:(k:Int)<(W.ν.length:Int):=B
    refine Tn ?_;intros;refine Ο.υ (A.at (Μ:=ew (Il Q) W.ν) (lj c3 hs)) ?_
    rw[e7]
    refine Ο.υ (Y:=a1 ((W.ν.map (·.nb))[(k:Int).toNat]!) s.lb (k:Int) Q s.n (aN s.lb s.S::(ew (Il Q) (W.ν.eraseIdx k)::obj wb KB [ae W.ad W.ν.length W.fe,ae W.F4 W.ν.length W.IM,ae W.cU W.ia.length W.fH,E W.G,ae W.F3 W.B9.length W.G3]::ε cI 1 W.ad (W.ν.map (·.lb))::ε cI 1 W.F4 (W.ν.map (·.nb))::G4 aV 3 hy W.cU W.fH W.ia::Ρ cV W.ia::Υ (a0 .i64) 1 kR W.F3 W.G3 W.B9::L))) (by rw[a2];simp only[a1,cw];exact ag) ?_
    refine Ο.ca (pm ((W.ν.map (·.nb))[(k:Int).toNat]!) s.lb (k:Int) Q ⟨B,d2⟩ hI.K4.2 s.n s.S H9 c0.a B W.G) ?_
    generalize dK (k:Int) W.G s.n.m s.S=cq at *
    rintro _ _⟨e8,c5,ds,n',rfl,b1,d5,rfl⟩
    have f2:ds.length<=600000000:=by
      have e:=congrArg List.length b1;have:=e5.len
      rw[ah] at e;omega
    simp only[a1,cw]
    refine Tn ?_;intros;refine Ο.ef (Ef.j7 (Β:=aV) (ys:=ds) rfl rfl rfl rfl rfl (λe _=>dG e) B B) ac ?_
    rintro _ _⟨b8,a6,rfl,rfl⟩
    refine Tn ?_;intros;rw[a2]
    refine⟨(k+1,⟨W.ν.set k { s with n:=n',S:=cq.2.2 },W.ad,W.fe,W.F4,W.IM,W.ia++ds,b8,a6,W.G,W.B9,W.F3,W.G3⟩),⟨by dsimp only;omega,?_,?_⟩,by dsimp only;omega,?_,?_⟩
    . dsimp only
      rw[d6,f0]
      have e:=E4.c7 (W:=W) (k:=(k:Int)) (s:=s) n' cq.2.2 ds cq b1 d5 rfl b8 a6
      rw[d1] at e
      exact e
    . exact c4.trans (gQ _ hs _ rfl)
    . dsimp only
      rw[bC k]
      exact aA
    . refine(A.at (Μ:=Ρ cV ds) (A.refl _)).trans ?_
      refine(A.at (Μ:=Ρ cV W.ia) (A.refl _)).trans ?_
      refine(A.c9 (f:=cV) ed).trans ?_
      refine A.trans ?_ (jC c3 hs n' _ _ _ _ _ _ _ _)
      rw[e7]
      simp only[a1,cw]
      exact ag
  have f4:k=Q.toNat:=B;subst f4;have d3:¬((Q.toNat:Int))<(W.ν.length:Int):=B;rw[<-hW] at sd;have a9:=a3.trans c4;simp only[E6,G9];refine Tn ?_;intros;refine Δ.loop (α:=Nat×E4) (λg=>g.1<=400/\g.2.m=Lr Q W.m g.1/\ML W g.2) (λg=>[(0,al wb),(1,E (r:Int)),(4,E (Θ:Int)),(6,E (g.1:Int))]) (λg=>E6 wb Q g.2 L) (λg=>400 - g.1) (0,W) ⟨aC _,rfl,rfl⟩ aA (by simp only[E6,G9];exact ag) ?_;rintro⟨k,η⟩ ⟨d0,hY,b4⟩;dsimp only at d0 hY b4 ⊢;have c2:=sd k d0;rw[<-hY] at c2;obtain⟨g7,e9⟩:=E4.c8 c2;have e0:=(a9.trans b4).d b5
  have a5:(400<=k\/η.ia=[])->Lr Q W.m 400=η.m:=λh=>by
    rcases h with h|h
    . rw[hY,show k=400 by omega]
    . rw[lO (j:=k) (by rw[<-hY];show η.ia.map (·.m)=[];rw[h];rfl) 400 d0,hY]
  have a4:Lr Q W.m 400=η.m->η.m=ip Q W0.m (Θ+1):=λh=>by
    show _=uP Q (ip Q W0.m Θ);unfold uP;rw[<-c1,<-hW,h]
  by_cases e3:k<400
  case neg =>
    have f3:¬(k:Int)<400:=B;refine Tn ?_;intros;refine⟨(Θ+1,η),⟨by dsimp only;omega,a4 (a5 (.inl B)),a9.trans b4⟩,by dsimp only;omega,?_,A.refl _⟩;dsimp only;rw[bC Θ];exact aA
  have f3:(k:Int)<400:=B;simp only[E6,G9];by_cases hz:η.ia.length>0
  case neg =>
    have g6:¬(η.ia.length:Int)>0:=B;refine Tn ?_;intros;refine⟨(Θ+1,η),⟨by dsimp only;omega,a4 (a5 (.inr (bG B))),a9.trans b4⟩,by dsimp only;omega,?_,?_⟩
    . dsimp only
      rw[bC Θ]
      exact aA
    . simp only[E6,G9]
      exact ag
  have g6:(η.ia.length:Int)>0:=B;have b2:η.ia[0]!∈η.ia:=bA hz;have hX:NA Q η.ia[0]!.m:=c2.T _ (Kg b2)
  have g1:η.m.T=η.ia[0]!.m::(η.ia.drop 1).map (·.m):=by
    show η.ia.map (·.m)=_;have e:η.ia=η.ia[0]!::η.ia.drop 1:=by rw[C5 hz,<-bS hz,List.drop_zero]
    conv=>lhs;rw[e]
    rfl
  repeat first|refine Δ.sn 12 ?_|refine cR ?_|intro _|refine cT ?_
  rename_i b7;refine Δ.υ (A.at (Μ:=Ρ cV η.ia) (A.d8 (f:=cV) b2)) ?_;rw[show(0:Int).toNat=0 from rfl,show(1:Int).toNat=1 from rfl];generalize η.ia[0]! = x at *;refine Δ.υ (A.at (Μ:=G4 aV 3 hy η.cU η.fH η.ia) (A.m8 (k:=1) B)) ?_;have d4:(η.ia.drop 1).length=η.ia.length - 1:=ck;have e1:=hX.x.to;have g5:x.m.to<η.ν.length:=B;obtain⟨j,hj⟩:∃j,j=x.m.to.toNat:=⟨_,rfl⟩;have c6:j<η.ν.length:=B;obtain⟨s2,b0⟩:∃s,η.ν[j]! = s:=⟨_,rfl⟩;have b6:s2.d=x.m.to:=by have:=e0 j c6;rw[b0] at this;omega
  have b3:η.m.nd x.m.to=(s2.n.m,s2.S):=E4.a8 B (by rw[<-hj];exact b0)
  have a2:(η.ν.map (·.nb))[x.m.to.toNat]! = s2.nb:=by
    rw[<-b0,hj];exact dY (f:=λs:F5=>s.nb) B
  have I:=c2.at e1;rw[b3] at I;have e6:=ly (G:=η.G) e1 I.a hX I.bd ac;have ha:=hX.x.am;have f1:=I.bd;have g2:(η.ν.map (·.nb)).length=η.ν.length:=ah _;dsimp only at f1 e6
  have d6:Lr Q W.m (k+1)=({ η.m with T:=(η.ia.drop 1).map (·.m) }:D2).send x.m.to (cS x.m.to Q x.m η.G s2.n.m s2.S):=by
    show J3 Q (Lr Q W.m k)=_;rw[<-hY];unfold J3;rw[g1];dsimp only;rw[μ e1,b3];rfl
  refine Tn ?_;intros;refine Ο.υ (A.at (Μ:=ew (Il Q) η.ν) (lj c6 b0)) ?_;rw[b6];refine Ο.υ (Y:=cV x::a1 ((η.ν.map (·.nb))[x.m.to.toNat]!) s2.lb x.m.to Q s2.n (aN s2.lb s2.S::(ew (Il Q) (η.ν.eraseIdx j)::obj wb KB [ae η.ad η.ν.length η.fe,ae η.F4 η.ν.length η.IM,ae (Jk η.cU η.fH 3 1) (η.ia.length - 1) (η.fH - 1),E η.G,ae η.F3 η.B9.length η.G3]::ε cI 1 η.ad (η.ν.map (·.lb))::ε cI 1 η.F4 (η.ν.map (·.nb))::G4 aV 3 hy (Jk η.cU η.fH 3 1) (η.fH - 1) (η.ia.drop 1)::Ρ cV η.ia::Υ (a0 .i64) 1 kR η.F3 η.G3 η.B9::obj b7 hy (aV x)::L))) (by rw[a2];simp only[a1,cw];exact ag) ?_;refine Ο.ca (jN ((η.ν.map (·.nb))[x.m.to.toNat]!) s2.lb x.m.to Q s2.n s2.S H9 x hX.ct (by have:=hX.x.kd;omega) I.a.hin B η.G) ?_;generalize cS x.m.to Q x.m η.G s2.n.m s2.S=cq at *;rintro _ _⟨e8,c5,ds,n',rfl,b1,d5,rfl⟩
  have f2:ds.length<=3300:=by
    have e:=congrArg List.length b1;have:=e6.len
    rw[ah] at e;omega
  simp only[a1,cw];refine Tn ?_;intros;refine Ο.ef (Ef.j7 (Β:=aV) (D:=η.ia.drop 1) (ys:=ds) rfl rfl (by rw[d4]) rfl rfl (λe _=>dG e) B B) ac ?_;rintro _ _⟨b9,a7,rfl,rfl⟩;refine Tn ?_;intros;rw[a2];refine⟨(k+1,⟨η.ν.set j { s2 with n:=n',S:=cq.2.2 },η.ad,η.fe,η.F4,η.IM,η.ia.drop 1++ds,b9,a7,η.G,η.B9,η.F3,η.G3⟩),⟨by dsimp only;omega,?_,?_⟩,by dsimp only;omega,?_,?_⟩
  . dsimp only
    rw[d6,hj]
    exact E4.c7 (W:=⟨η.ν,η.ad,η.fe,η.F4,η.IM,η.ia.drop 1,Jk η.cU η.fH 3 1,η.fH - 1,η.G,η.B9,η.F3,η.G3⟩) (k:=x.m.to) (s:=s2) n' cq.2.2 ds cq b1 d5 rfl b9 a7
  . exact b4.trans (gQ _ b0 _ rfl)
  . dsimp only
    rw[bC k]
    exact aA
  . refine(A.at (Μ:=Ρ cV ds) (A.refl _)).trans ?_
    refine(A.at (Μ:=Ρ cV η.ia) (A.g9 (l':=η.ia.drop 1) λy Z=>dC Z)).trans ?_
    refine(A.c9 (f:=cV) ed).trans ?_
    refine A.trans ?_ (jC c6 b0 n' _ _ _ _ _ _ _ _)
    rw[b6]
    simp only[a1,cw]
    exact ag
end
section
open Go.V
def iF(S:Χ)(s:C8):Χ:={ S with ο:=(cL S.kQ S.Ι (fm S.ζ) (s.at (cp S)) (Jm S) s.cM).2.ο,gr:=(cL S.kQ S.Ι (fm S.ζ) (s.at (cp S)) (Jm S) s.cM).2.gr,hx:=S.hx++[s.at (cp S)],Ι:=S.Ι++(cL S.kQ S.Ι (fm S.ζ) (s.at (cp S)) (Jm S) s.cM).2.Ι }
theorem oS{S:Χ}{s:C8}(J:S.hx.length<65536)(U:ge S.ζ S.now s)(h3:(cL S.kQ S.Ι (fm S.ζ) (s.at (cp S)) (Jm S) s.cM).1=0):(E2 S s).1=0/\bP S s=iF S s:=by
  grind [E2,bP,eX,iF]
instance (k:Nat)(m:A9):Decidable (pO k m):=by unfold pO;infer_instance
theorem lZ{now Κ G f t x n:Int}{ps:LL}(hk:0<=Κ/\Κ<=10)(k4:¬Κ=4)(r:¬Κ=10)(ht:now<=G/\G<=1099511627776)(hb:pO 4 ⟨f,t,x,n,ps⟩)(hp:if gO Κ=true then jT ps n else ps.length=0)(he:iD Κ ⟨f,t,x,n,ps⟩):ge H9 now (I9 Κ G [⟨f,t,x,n,ps⟩]):=by
  refine⟨hk,⟨by show(0:Int)<=0;decide,by show(0:Int)<=1073741824;decide⟩,ht,⟨by show 1<=1;decide,by show 1<=64;decide⟩,λm hm=>?_,?_⟩
  . rw[D6 hm]
    exact⟨hb,hp⟩
  grind [ol,I9]
theorem cB{S:Χ}{Κ G:Int}{T:List A9}(J:S.hx.length<65536)(U:ge S.ζ S.now (I9 Κ G T))(h3:(cL S.kQ S.Ι (fm S.ζ) ((I9 Κ G T).at (cp S)) (Jm S) T).1=0) :
    IG S Κ G T=true/\Jo S Κ G T=iF S (I9 Κ G T)/\Kc S Κ G T=((iF S (I9 Κ G T)).Ι.drop S.Ι.length).map (·.F):=by
  obtain⟨e1,e2⟩:=oS (s:=I9 Κ G T) J U h3;refine⟨bI e1,e2,?_⟩;unfold Kc kL;grind
def Lh:Χ:=iF (I2 0 H9) (I9 0 0 [⟨0,1,0,5,[]⟩])
def Jd:Χ:=iF (I2 1 H9) (I9 0 0 [⟨0,2,1,3,[]⟩])
def IA:Χ:=iF Lh (I9 2 0 [⟨1,268435456,0,5,[]⟩])
def Ls:Χ:=iF Jd (I9 2 0 [⟨2,268435456,1,3,[]⟩])
def KE:Χ:=iF IA (I9 6 0 [⟨268435456,0,0,5,[]⟩])
def NC:Χ:=iF Ls (I9 5 0 [⟨0,2,0,5,[(2,0,5)]⟩])
def IB:Χ:=iF NC (I9 6 0 [⟨268435456,0,1,3,[]⟩])
def IS:Χ:=iF KE (I9 5 0 [⟨0,1,1,3,[(4294967299,0,3)]⟩])
theorem po{k:Int}(h:¬(k=5\/k=7\/k=9)){ps:LL}{n:Int}(hp:ps.length=0):if gO k=true then jT ps n else ps.length=0:=by
  grind [re]
theorem Cp{k:Int}(h:k=5\/k=7\/k=9){ps:LL}{n:Int}(hp:jT ps n):if gO k=true then jT ps n else ps.length=0:=by
  grind [gO,bI]
def q1:IG Lh 2 0 [⟨1,268435456,0,5,[]⟩]=true/\Jo Lh 2 0 [⟨1,268435456,0,5,[]⟩]=IA/\Kc Lh 2 0 [⟨1,268435456,0,5,[]⟩]=[1] :=
  cB (S:=Lh) ac (lZ ac ac ac ac ac (po ac rfl) ac) rfl
def q2:IG Jd 2 0 [⟨2,268435456,1,3,[]⟩]=true/\Jo Jd 2 0 [⟨2,268435456,1,3,[]⟩]=Ls/\Kc Jd 2 0 [⟨2,268435456,1,3,[]⟩]=[4294967297] :=
  cB (S:=Jd) ac (lZ ac ac ac ac ac (po ac rfl) ac) rfl
def q3:IG IA 6 0 [⟨268435456,0,0,5,[]⟩]=true/\Jo IA 6 0 [⟨268435456,0,0,5,[]⟩]=KE/\Kc IA 6 0 [⟨268435456,0,0,5,[]⟩]=[2] :=
  cB (S:=IA) ac (lZ ac ac ac ac ac (po ac rfl) ac) rfl
def q4:IG Ls 5 0 [⟨0,2,0,5,[(2,0,5)]⟩]=true/\Jo Ls 5 0 [⟨0,2,0,5,[(2,0,5)]⟩]=NC/\Kc Ls 5 0 [⟨0,2,0,5,[(2,0,5)]⟩]=[4294967298] :=
  cB (S:=Ls) ac (lZ ac ac ac ac ac (Cp ac ac) ac) rfl
def q5:IG NC 6 0 [⟨268435456,0,1,3,[]⟩]=true/\Jo NC 6 0 [⟨268435456,0,1,3,[]⟩]=IB/\Kc NC 6 0 [⟨268435456,0,1,3,[]⟩]=[4294967299] :=
  cB (S:=NC) ac (lZ ac ac ac ac ac (po ac rfl) ac) rfl
def q6:IG KE 5 0 [⟨0,1,1,3,[(4294967299,0,3)]⟩]=true/\Jo KE 5 0 [⟨0,1,1,3,[(4294967299,0,3)]⟩]=IS/\Kc KE 5 0 [⟨0,1,1,3,[(4294967299,0,3)]⟩]=[3] :=
  cB (S:=KE) ac (lZ ac ac ac ac ac (Cp ac ac) ac) rfl
def Rq:dU (IA.ο 1 0)=0/\dU (IS.ο 1 1)=3/\dU (IB.ο 2 0)=5:=⟨rfl,rfl,rfl⟩
theorem nx{d G:Int}{m:xs}{N:eu}{S:Χ}(h:m.to=d)(Ξ:Nat):bF d G (Ξ+1) m N S=bQ (bF d G Ξ) (bk d m.Ψ m.ct G N S).1 (bk d m.Ψ m.ct G N S).2.1 (bk d m.Ψ m.ct G N S).2.2:=by
  rw[bF];grind
def qF{d G:Int}(Ξ:Nat):∀{l:List xs} {N:eu} {S:Χ},(∀m∈l,m.to≠d)->bQ (bF d G (Ξ+1)) l N S=(l,N,S)
  | [],N,S,_=>rfl
  | m::l,N,S,h=>by
    simp only[bQ];rw[jS (h m az)];dsimp only;rw[qF Ξ λx K=>h x (aB _ K)];rfl
theorem jb{d Q G:Int}{x:xs}{N:eu}{S:Χ}{Α:Ja}(J:x.to=d)(U:0<=x.Ψ/\x.Ψ<Q)(h3:x.Ψ≠d)(hh:bk d x.Ψ x.ct G N S=Α)(ho:∀m∈Α.1,m.to≠d):cS d Q x G N S=Α:=by
  unfold cS;rw[μ ay,hh];exact qF 6 ho
section
variable {d f G:Int}{m:IF}{N:eu}{S:Χ}
def zQ(h:m.Κ=1):bk d f m G N S=fQ d m G N S:=by
  unfold bk;rw[μ h]
theorem sx(h:m.Κ=2):bk d f m G N S=dy d f m G N S:=by
  grind [bk]
theorem GL(h:m.Κ=3):bk d f m G N S=dX d m G N S:=by
  grind [bk]
theorem zP(h:m.Κ=4):bk d f m G N S=iy f m N S:=by
  grind [bk]
theorem GK(h:m.Κ=5):bk d f m G N S=dO d f m G N S:=by
  grind [bk]
theorem zO(h:m.Κ=6):bk d f m G N S=Mb m N S:=by
  grind [bk]
end
def K5:G7:=⟨0,1,1,2,[(0,5)]⟩
def LM:G7:=⟨1,2,0,1,[(1,3)]⟩
def xl:List G7:=[K5,LM]
def xe(v t:List Int)(Ξ:Bool):J7:=⟨xl,[0,1],9,v,t,Ξ,Ξ⟩
def xp(s:Int)(l:G7)(i st:Int)(fl:List Int):Lb:=⟨s,268435456,[⟨l,i,st,fl⟩]⟩
def Sq:eu:=⟨1,0,[(0,xe [] [] false)],[],[]⟩
def JB:eu:=⟨1,1,[(0,xe [0] [] false)],[(0,xp 0 K5 0 0 [])],[]⟩
def M5:eu:=⟨1,1,[(0,xe [0,1] [0] true)],[(0,xp 1 K5 0 1 [2])],[]⟩
def QE:eu:=⟨1,1,[(0,xe [0,1] [0] true)],[(0,xp 1 K5 0 2 [2])],[]⟩
def QF:eu:=⟨1,1,[(0,xe [0,1] [0] true)],[(0,xp 1 K5 0 2 [2])],[(0,1)]⟩
def Jp:eu:=⟨1,1,[(0,xe [0,1] [0,1] true)],[(0,xp 1 K5 0 2 [2])],[(0,1)]⟩
def Jq:eu:=⟨0,1,[],[(0,xp 0 LM 1 0 [])],[]⟩
def QG:eu:=⟨0,1,[],[(0,xp 0 LM 1 0 [])],[(0,0)]⟩
def NF:eu:=⟨0,1,[],[(0,xp 1 LM 1 1 [4294967299])],[(0,0)]⟩
def Kj:eu:=⟨0,1,[],[(0,xp 1 LM 1 2 [4294967299])],[(0,0)]⟩
def PF:IF:=⟨1,0,0,false,xl,[]⟩
def Je:xs:=⟨0,1,PF⟩
def Lt:xs:=⟨1,0,E3 2 0 0 true⟩
def Oo:xs:=⟨0,1,⟨5,0,0,false,[K5],[2]⟩⟩
def NG:xs:=⟨0,1,E3 3 0 0 true⟩
def PG:xs:=⟨1,0,E3 6 0 0 false⟩
def PI:xs:=⟨1,0,⟨5,0,1,false,[LM],[4294967299]⟩⟩
def Oq:xs:=⟨1,0,E3 4 0 0 false⟩
def PJ:xs:=⟨0,1,E3 6 0 1 false⟩
def zt{d Φ:Int}{N N' : eu}{S S' : Χ}(h0:dV N.Ζ 0=none)(J:IG S 2 0 (fU (268435456+N.hl) (II d 0 xl))=true)(U:Jo S 2 0 (fU (268435456+N.hl) (II d 0 xl))=S')(h3:{ N with hl:=N.hl+1,Ζ:=fc N.Ζ 0 ⟨0,268435456+N.hl,II d 0 xl⟩ }=N')(Ψ:Int):bk d Ψ PF 0 N S=([⟨d,0,E3 2 0 0 true⟩],N',S'):=by
  rw[zQ rfl];unfold fQ;rw[show dV N.Ζ PF.F=none from h0];dsimp only;rw[μ (show IG S 2 0 (fU (268435456+N.hl) (II d 0 PF.Η))=true from J)];exact Prod.ext rfl (Prod.ext h3 U)
def T4:cS 1 2 Je 0 Ke Jd=([Lt],Jq,Ls):=jb rfl ac ac (zt (Φ:=0) rfl q2.1 q2.2.1 rfl 0) (λm hm=>by rw[D6 hm];decide)
def T5:cS 1 2 Je 0 Jq Ls=([Lt],Jq,Ls):=jb rfl ac ac ((zQ rfl).trans Γ) (λm hm=>by rw[D6 hm];decide)
def T6:Ix 0 0 [⟨0,0,PF⟩,Je] Sq Lh=([Je],JB,IA):=by
  unfold Ix;simp only[bQ];rw[nx (d:=0) (m:=⟨0,0,PF⟩) rfl,zt (d:=0) (Φ:=0) (N:=Sq) (S:=Lh) rfl q1.1 q1.2.1 rfl 0];simp only[bQ];rw[nx (d:=0) (m:=⟨0,0,E3 2 0 0 true⟩) rfl,sx (show(E3 2 0 0 true).Κ=2 from rfl),jS (d:=0) (m:=Je) ac];rfl
theorem zd{d F:Int}{o:B0}{S S' : Χ}{fl:List Int}(h0:o.state=0)(ht:o.bB.ts≠d)(J:IG S 6 0 (Ij 268435456 0 o.bB.am)=true)(U:Jo S 6 0 (Ij 268435456 0 o.bB.am)=S')(h3:Kc S 6 0 (Ij 268435456 0 o.bB.am)=fl):cm d F 1 268435456 0 [o] S=([gW d F { o with state:=1,Ι:=fl }],[{ o with state:=1,Ι:=fl }],S'):=by
  grind [cm,jA]
def DS{d Ψ:Int}{N N' : eu}{S S' : Χ}{o:B0}{fl:List Int}(hp:dV N.Ζ 0=some ⟨0,268435456,[o]⟩)(h:cm d 0 1 268435456 0 [o] S=([gW d 0 { o with state:=1,Ι:=fl }],[{ o with state:=1,Ι:=fl }],S'))(hN:{ N with Ζ:=fc N.Ζ 0 ⟨1,268435456,[{ o with state:=1,Ι:=fl }]⟩ }=N'):bk d Ψ (E3 3 0 0 true) 0 N S=([gW d 0 { o with state:=1,Ι:=fl },⟨d,0,E3 4 0 0 false⟩],N',S'):=by
  rw[GL rfl];unfold dX;rw[show dV N.Ζ (E3 3 0 0 true).F=some ⟨0,268435456,[o]⟩ from hp];dsimp only;rw[μ rfl,show(if(E3 3 0 0 true).yes=true then(1:Int) else 2)=1 from rfl,show cm d (E3 3 0 0 true).F 1 268435456 0 [o] S=_ from h];exact Prod.ext rfl (Prod.ext hN rfl)
def Sr:eu:=⟨1,1,[(0,xe [0,1] [] true)],[(0,xp 0 K5 0 0 [])],[]⟩
def T7:eu:=⟨1,1,[(0,xe [0,1] [] true)],[(0,xp 1 K5 0 1 [2])],[]⟩
def T8:cS 0 2 Lt 0 JB IA=([Oo,NG],M5,KE):=by
  have J:bk 0 1 (E3 2 0 0 true) 0 JB IA=([⟨0,0,E3 3 0 0 true⟩,NG],Sr,IA):=(sx rfl).trans Γ;have U:bk 0 0 (E3 3 0 0 true) 0 Sr IA=([Oo,⟨0,0,E3 4 0 0 false⟩],T7,KE):=DS (o:=⟨K5,0,0,[]⟩) rfl (zd rfl ac q3.1 q3.2.1 q3.2.2) rfl;unfold cS;rw[μ (show Lt.to=0/\(0<=Lt.Ψ/\Lt.Ψ<2)/\Lt.Ψ≠0 by decide),show bk 0 Lt.Ψ Lt.ct 0 JB IA=_ from J];unfold Ix;simp only[bQ];rw[nx (d:=0) (m:=⟨0,0,E3 3 0 0 true⟩) rfl,U];simp only[bQ];rw[jS (d:=0) (m:=Oo) ac];dsimp only;rw[nx (d:=0) (m:=⟨0,0,E3 4 0 0 false⟩) rfl,zP (show(E3 4 0 0 false).Κ=4 from rfl),jS (d:=0) (m:=NG) ac];rfl
theorem T9:cS 0 2 Lt 0 M5 KE=([],M5,KE):=jb rfl ac ac ((sx rfl).trans rfl) ay
theorem ut{d Ψ:Int}{N N' : eu}{S S' : Χ}{i:Int}{l:G7}{f:Int}(hr:¬(0,i)∈N.C1)(hl:[f].length=l.am.length)(J:IG S 5 0 (Kz l.to l.am [f])=true)(U:Jo S 5 0 (Kz l.to l.am [f])=S')(hN:{ N with C1:=N.C1++[(0,i)] }=N'):bk d Ψ ⟨5,0,i,false,[l],[f]⟩ 0 N S=([⟨d,Ψ,E3 6 0 i false⟩],N',S'):=by
  grind [GK,dO]
def Ua:cS 1 2 Oo 0 Jq Ls=([PG],QG,NC):=jb rfl ac ac (ut ac rfl q4.1 q4.2.1 rfl) (λm hm=>by rw[D6 hm];decide)
def Ub:cS 1 2 NG 0 QG NC=([PI,Oq],NF,IB):=jb rfl ac ac (DS (o:=⟨LM,1,0,[]⟩) rfl (zd rfl ac q5.1 q5.2.1 q5.2.2) rfl) (λm hm=>by
  rcases Jr hm with rfl|hm
  . decide
  . rw[D6 hm];decide)
theorem Uc:cS 0 2 PG 0 M5 KE=([],QE,KE):=jb rfl ac ac ((zO rfl).trans rfl) ay
def Ud:cS 0 2 PI 0 QE KE=([PJ],QF,IS):=jb rfl ac ac (ut ac rfl q6.1 q6.2.1 rfl) (λm hm=>by rw[D6 hm];decide)
theorem Ue:cS 0 2 Oq 0 QF IS=([],Jp,IS):=jb rfl ac ac ((zP rfl).trans rfl) ay
theorem Uf:cS 1 2 PJ 0 NF IB=([],Kj,IB):=jb rfl ac ac ((zO rfl).trans rfl) ay
def mf{N:eu}{k:Int}(h:N.δ.map (·.1)++(N.Ζ.map (·.1)).filter (λk=>decide ((dV N.δ k).isNone=true))=[k]):fy N=[k]:=by
  unfold fy lV;rw[h,List.mergeSort_singleton]
def HN:dK 1 0 Ke Jd=([],Ke,Jd):=by
  unfold dK;rw[show fy Ke=[] from List.mergeSort_nil];rfl
def HM:dK 0 0 JB IA=([Je],JB,IA):=by
  unfold dK;rw[mf (N:=JB) (k:=0) rfl];have h:JS 0 0 0 JB IA=([Je],JB,IA):=qF 6 (l:=[Je]) λm hm=>by rw[D6 hm];decide
  simp only[bQ];unfold Ms;rw[h];rfl
def HL:dK 0 0 Jp IS=([],Jp,IS):=by
  unfold dK;rw[mf (N:=Jp) (k:=0) rfl]
  have h:KV 0 0 0 Jp IS=([],Jp,IS):=by
    unfold KV;rw[show dV Jp.Ζ 0=some (xp 1 K5 0 2 [2]) from rfl];dsimp only;rw[μ (.inl rfl)]
    have e:Iz 0 0 1 268435456 0 ⟨K5,0,2,[2]⟩ IS=([],⟨K5,0,2,[2]⟩,IS):=by
      unfold Iz;rw[Ω ac,ja ac]
    have e2:Is (Iz 0 0 (xp 1 K5 0 2 [2]).state (xp 1 K5 0 2 [2]).Φ 0) (xp 1 K5 0 2 [2]).Η IS=([],[⟨K5,0,2,[2]⟩],IS):=by
      show Is (Iz 0 0 1 268435456 0) [⟨K5,0,2,[2]⟩] IS=_;simp only[Is];rw[e];rfl
    rw[e2];rfl
  simp only[bQ];unfold Ms;rw[show JS 0 0 0 Jp IS=([],Jp,IS) from rfl,h];rfl
def HK:dK 1 0 Kj IB=([],Kj,IB):=by
  unfold dK;rw[mf (N:=Kj) (k:=0) rfl]
  have h:KV 1 0 0 Kj IB=([],Kj,IB):=by
    unfold KV;rw[show dV Kj.Ζ 0=some (xp 1 LM 1 2 [4294967299]) from rfl];dsimp only;rw[μ (.inl rfl)]
    have e:Iz 1 0 1 268435456 0 ⟨LM,1,2,[4294967299]⟩ IB=([],⟨LM,1,2,[4294967299]⟩,IB):=by
      unfold Iz;rw[Ω ac,ja ac]
    have e2:Is (Iz 1 0 (xp 1 LM 1 2 [4294967299]).state (xp 1 LM 1 2 [4294967299]).Φ 0) (xp 1 LM 1 2 [4294967299]).Η IB=([],[⟨LM,1,2,[4294967299]⟩],IB):=by
      show Is (Iz 1 0 1 268435456 0) [⟨LM,1,2,[4294967299]⟩] IB=_;simp only[Is];rw[e];rfl
    rw[e2];rfl
  simp only[bQ];unfold Ms;rw[show JS 1 0 0 Kj IB=([],Kj,IB) from rfl,h];rfl
