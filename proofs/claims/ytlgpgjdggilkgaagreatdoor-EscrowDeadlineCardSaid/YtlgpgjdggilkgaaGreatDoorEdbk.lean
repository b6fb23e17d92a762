/- Lemmas. -/
import Derived.Test.YtlgpgjdggilkgaaGreatDoorEdbj
set_option linter.all false
set_option maxHeartbeats 16000000
namespace Go.Proofs.YtlgpgjdggilkgaaGreatDoor
section
open Go.V
abbrev T1:Nat:=37
abbrev T2:Nat:=62
def GD{s:ByteArray}(h:(1<=s.size/\s.size<=16)/\gI s 0=3/\∀i:Nat,i<s.size->gI s i=3\/gI s i=4\/gI s i=5):TP s:=⟨h.1,h.2.1,h.2.2⟩
def BX:Tq I4:=by
  refine⟨by decide,?_,by decide⟩;intro x M;simp only[I4,Vw,fL,aH,or_false] at M;rcases M with rfl|rfl|rfl|rfl<;>exact⟨GD (by decide +kernel),by decide,by decide⟩
def N9:ω:=⟨0,0,[],[],[]⟩
structure U1 (l:List Int) (i:Nat) (s:K2):Prop where
  d:s.d=(i:Int)
  n:s.n.m=N9
  sp:P8 i 8 s.S
  z:l=[]->s.S=L1 i I4
structure Se (n:Int) (l:List Int) (W:F6):Prop where
  len:(W.cO.length:Int)=n
  sd:∀i:Nat,i<W.cO.length->U1 l i W.cO[i]!
  O:W.x5=[]
  B:W.B=0
  h1:W.h1=[]
def xu{d F:Int}{i:Nat}{S:Τ}(h:P8 d i S):PU I4 d F N9 S :=
  ⟨⟨h.J1,⟨bE 0,by show(0:Int)<=ey S;omega⟩,dp,λp hp=>iJ hp aH,λp hp=>iJ hp aH⟩,
   ⟨bE 0,dp,dp,λp hp=>iJ hp aH,λp hp=>iJ hp aH,λp hp=>iJ hp aH⟩,
   λk x M=>by cases M⟩
def Se.wd{n:Int}{l:List Int}{W:F6}(h:Se n l W)(hn:1<=n/\n<=12):F1 n 0 8 0 0 W.m:=by
  refine⟨hn,by simp only[F6.m,ak];exact h.len,λi hi=>?_,λm hm=>?_,?_,?_,?_⟩
  . simp only[F6.m,ak] at hi
    have e:W.m.D8[i]! = W.cO[i]!.m:=eZ (f:=K2.m) hi
    have hs:=h.sd i hi
    rw[e]
    refine⟨?_,?_,?_⟩
    . show PU I4 i n W.cO[i]!.n.m W.cO[i]!.S
      rw[hs.n]
      exact xu hs.sp
    . show ey W.cO[i]!.S+F0 W.cO[i]!.n.m<=8
      rw[hs.n]
      have:=hs.sp.k
      show ey W.cO[i]!.S+0<=8
      omega
    . show W.cO[i]!.n.m.ν<=0
      rw[hs.n]
      exact bE 0
  . simp only[F6.m,h.O] at hm
    cases hm
  . simp only[F6.m,h.O]
    exact ax _
  . show 0<=W.B/\W.B<=0
    rw[h.B]
    decide
  . show W.h1.length<=0
    rw[h.h1]
    exact ax _
attribute [local irreducible] Β Y GP δ vi GF GE Z Ef C0 E CB GB V.Enters bH K6
def uc{L:Ι}(n:Int)(hn:1<=n/\n<=12)(ad:OA)(m c:Nat)(l:List Int)[hrd:F5 L ad Int (eU .i64) 1 l](hm:m=l.length)(hc:m<=c)(M:∀x∈l,xs x) :
    Υ Λ 11 #[K n,ae ad m c] (co::L) (λv Ε=>∃wb W,v=.tuple #[ay wb,.bool true]/\Se n l W/\Ε = F2 wb n W (co::L)):=by
  subst hm;refine Υ.bd ?_;refine ML ?_;intros;rename_i bw;refine Β.loop (α:=Nat×(OA×Nat)×(OA×Nat)×List K2) (λg=>((g.1:Int)<=n/\g.2.2.2.length=g.1)/\∀i,i<g.2.2.2.length->U1 l i g.2.2.2[i]!) (λg=>[(0,K n),(1,ae ad l.length c),(6,ay bw),(7,K (g.1:Int))]) (λg=>obj bw Pz [ae g.2.1.1 g.2.2.2.length g.2.1.2,ae g.2.2.1.1 g.2.2.2.length g.2.2.1.2,ae none 0 0,K 0,ae none 0 0]::μ du 1 T1 g.2.1.1 g.2.1.2 (g.2.2.2.map (·.lb))::μ du 1 T2 g.2.2.1.1 g.2.2.1.2 (g.2.2.2.map (·.nb))::h2 (MN n) g.2.2.2::co::L) (λg=>n.toNat - g.1) (0,(none,0),(none,0),[]) ⟨⟨by dsimp only;omega,rfl⟩,λi hi=>iJ hi (Nat.not_lt_zero i)⟩ aG ?_ ?_
  . dsimp only
    refine(E.j6 (MN n)).trans ((E.c8 du 1 T2).trans ((E.c8 du 1 T1).trans ?_))
    simp only[bu,bq]
    exact aj
  rintro⟨i,⟨bD,id⟩,⟨I7,M5⟩,cO⟩ ⟨⟨hi,a5⟩,a7⟩;dsimp only at hi a5 a7 ⊢;have b5:(cO.map (·.lb)).length=i:=by rw[ak];exact a5
  have b7:(cO.map (·.nb)).length=i:=by rw[ak];exact a5
  by_cases b6:(i:Int)<n
  case neg =>
    refine ML ?_;intros;refine KX.a8 aC ?_ ⟨bw,⟨cO,bD,id,I7,M5,[],none,0,0,[],none,0⟩,rfl,⟨by dsimp only;omega,a7,rfl,rfl,rfl⟩,rfl⟩;refine(E.at (Φ:=μ du 1 T1 bD id (cO.map (·.lb))) E.NZ).trans ?_;refine(E.at (Φ:=μ du 1 T2 I7 M5 (cO.map (·.nb))) E.NZ).trans ?_;refine(E.m5 be 3 B2).trans ((E.c7 gO).trans ((E.c8 (eU .i64) 1 C3).trans ?_));simp only[F2,M0,bq];exact aj
  refine ML ?_;intros;refine Y.ca (vN) ?_;rintro _ _⟨cv,rfl,⟨b1,b3⟩,rfl⟩;refine ML ?_;intros;refine Y.cM (Ε:=Oc cv::co::(obj bw Pz [ae bD cO.length id,ae I7 cO.length M5,ae none 0 0,K 0,ae none 0 0]::μ du 1 T1 bD id (cO.map (·.lb))::μ du 1 T2 I7 M5 (cO.map (·.nb))::h2 (MN n) cO::L)) aj ?_;refine Y.ca (EJ (i:Int) cv ⟨D,D⟩ b3 (by rw[b1];exact BX)) ?_;rintro _ _⟨lb,rfl,rfl⟩;rw[b1];refine ML ?_;intros;generalize hj:min (l.length:Int) (16*(i:Int))=j at *;have c2:0<=j/\j<=l.length:=D;refine ML ?_;intros;refine Y.ca (xQ (hrd:=F5.drop (G:=l) inferInstance hc j.toNat) (NJ ad c 1 j.toNat) (l.length - j.toNat) (c - j.toNat) (l.drop j.toNat) (by rw[cB]) (λx h=>M x (eK h))) ?_;rintro _ _⟨K0,P3,ss,rfl,⟨⟨c4,b9⟩,c0⟩,rfl⟩;have hz:l=[]->ss=[]:=λq=>b9 (by rw[q,List.drop_nil]);refine ML ?_;intros;refine Β.loop (α:=Nat×Τ) (λg=>g.1<=ss.length/\P8 i g.1 g.2/\(l=[]->g.2=L1 i I4)) (λg=>[(0,K n),(1,ae ad l.length c),(6,ay bw),(7,K (i:Int)),(8,ay lb),(10,ae K0 ss.length P3),(11,K (g.1:Int))]) (λg=>aT lb g.2::μ eH 7 jh K0 P3 ss::η iw ss::obj bw Pz [ae bD cO.length id,ae I7 cO.length M5,ae none 0 0,K 0,ae none 0 0]::μ du 1 T1 bD id (cO.map (·.lb))::μ du 1 T2 I7 M5 (cO.map (·.nb))::h2 (MN n) cO::co::L) (λg=>ss.length - g.1) (0,L1 i I4) ⟨aD _,P8.zero ⟨D,D⟩,λ_=>rfl⟩ aG (by dsimp only;exact aj) ?_;rintro⟨k,S⟩ ⟨hk,hI,b0⟩;dsimp only at hk hI b0 ⊢;by_cases a2:k<ss.length
  . have b4:(k:Int).toNat=k:=D
    obtain⟨to,x,nn,gi,a9,b8⟩:=c0 _ (bI a2)
    have a6:=bI a2
    have c1:¬l=[]:=λq=>by
      rw[hz q] at a2;exact iJ a2 (Nat.not_lt_zero _)
    generalize hsk:ss[k]! = s at *
    obtain⟨p1,p2⟩:=hI.post D b8 gi
    rw[<-a9] at p1 p2
    have hin:=xR to x nn gi
    rw[<-a9] at hin
    have c3:=hI.k
    refine ML ?_;intros;rw[b4,hsk]
    refine Y.cM (E.at (Φ:=η iw ss) ((E.d8 (f:=iw) a6).trans E.Uf)) ?_
    refine Y.cM (Ε:=aT lb S::stM s::Nb s::(μ eH 7 jh K0 P3 ss::η iw ss::obj bw Pz [ae bD cO.length id,ae I7 cO.length M5,ae none 0 0,K 0,ae none 0 0]::μ du 1 T1 bD id (cO.map (·.lb))::μ du 1 T2 I7 M5 (cO.map (·.nb))::h2 (MN n) cO::co::L)) aj ?_
    refine Y.ca (kX lb S (ey S) hI.J1.a (by rw[hI.J1.υ];exact hI.J1.ok) hI.J1.now s hin.1 hin.2 (by rw[a9];show ey S+1<=2000;omega) tY) ?_
    rw[p1]
    rintro _ _⟨rfl,rfl⟩
    refine ML ?_;intros;refine⟨(k+1,bN S s.m),⟨by dsimp only;omega,p2,λq=>iJ q c1⟩,by dsimp only;omega,?_,by exact aj⟩
    dsimp only
    rw[bJ k]
    exact aG
  refine ML ?_;intros;refine Y.ca (Iz lb (i:Int) n D b6 hn.2) ?_;rintro _ _⟨nb,mb,mp,mr,rfl,rfl⟩;simp only[fh,hl];refine ML ?_;intros;refine Y.ef (Ef.a8 (Η:=du) (e:=lb) rfl rfl rfl (by rw[ak]) rfl aY (wO _) D D) ac ?_;rintro _ _⟨a3,A,rfl,rfl⟩;refine ML ?_;intros;refine Y.ef (Ef.a8 (Η:=du) (e:=nb) rfl rfl rfl (by rw[ak]) rfl aY (wO _) D D) ac ?_;rintro _ _⟨a4,J,rfl,rfl⟩;refine ML ?_;intros;have b2:=hI.mono (D:k<=8);refine⟨(i+1,(a3,A),(a4,J),cO++[⟨nb,lb,(i:Int),⟨mb,mp,mr,0,0,[],[],[]⟩,S⟩]),⟨⟨by dsimp only;omega,by simp[a5]⟩,λq hq=>?_⟩,by dsimp only;omega,?_,?_⟩
  . dsimp only at hq ⊢
    rw[aA,bh] at hq
    by_cases h:q<cO.length
    . rw[E7 (by rw[aA];omega),List.getElem_append_left h,<-E7 h]
      exact a7 q h
    . have e:q=cO.length:=D
      subst e
      rw[E7 (by rw[aA,bh];omega),eJ (ax _)]
      simp only[Nat.sub_self,List.getElem_singleton]
      rw[a5]
      exact⟨rfl,rfl,b2,b0⟩
  . dsimp only
    rw[bJ i]
    exact aG
  . dsimp only
    simp only[aQ,al,bu,aA,ak,bh]
    refine E.trans (hx:=fh nb lb (i:Int) n ⟨mb,mp,mr,0,0,[],[],[]⟩ (aT lb S::(h2 (MN n) cO::obj bw Pz [ae a3 (cO.length+1) A,ae a4 (cO.length+1) J,ae none 0 0,K 0,ae none 0 0]::μ du 1 T1 a3 A (cO.map (·.lb)++[lb])::μ du 1 T2 a4 J (cO.map (·.nb)++[nb])::co::L))) (by simp only[fh,hl];exact aj) ?_
    refine(E.f8 (Φ:=fh nb lb (i:Int) n ⟨mb,mp,mr,0,0,[],[],[]⟩ [aT lb S])).trans ?_
    refine(E.l0 (f:=MN n) (x:=(⟨nb,lb,(i:Int),⟨mb,mp,mr,0,0,[],[],[]⟩,S⟩:K2))).trans ?_
    exact aj
end
section
open Go.V
noncomputable def Pm(W:jA)(k:Int):jA:=W.send k (cU k W.B (W.nd k).1 (W.nd k).2)
noncomputable def NX(W:jA):Nat->jA
  | 0=>W
  | k+1=>Pm (NX W k) (k:Int)
noncomputable def Nv(F:Int)(W:jA):jA:=match W.O with
  | []=>W
  | m::O=>if 0<=m.to/\m.to<F then({ W with O:=O }:jA).send m.to (dM m.to F m W.B (W.nd m.to).1 (W.nd m.to).2) else { W with O:=O }
noncomputable def Oa(F:Int)(W:jA):Nat->jA
  | 0=>W
  | k+1=>Nv F (Oa F W k)
noncomputable def iT(F:Int)(W:jA):jA:=Oa F (NX W F.toNat) 400
noncomputable def cy(F:Int)(W:jA):Nat->jA
  | 0=>W
  | Δ+1=>iT F (cy F W Δ)
def lO(F:Int)(ο an:Nat)(W:jA):Prop:=(∀k:Nat,(k:Int)<=F->F1 F 63 1900 ο an (NX W k))/\∀k:Nat,k<=400->F1 F 63 1900 ο an (Oa F (NX W F.toNat) k)
def ny{F:Int}{W:jA}{j:Nat}(h:(Oa F W j).O=[]):∀k,j<=k->Oa F W k=Oa F W j
  | 0,hk=>by rw[show j=0 by omega]
  | k+1,hk=>by
    by_cases e:j=k+1
    . rw[e]
    . have ih:=ny h k D
      show Nv F (Oa F W k)=_
      rw[ih]
      unfold Nv
      rw[h]
def RB.trans{Φ hx C:F6}(I:RB Φ hx)(Q:RB hx C):RB Φ C:=Eq.trans Q I
def RB.d{Φ hx:F6}(h:RB Φ hx)(ha:Sy Φ):Sy hx:=λi hi=>by
  have T:hx.cO.length=Φ.cO.length:=by simpa using congrArg List.length h
  have e:=congrArg (λl:List (Nat×Nat×Int)=>l[i]!) h;rw[eZ (f:=λs:K2=>(s.lb,s.nb,s.d)) hi,eZ (f:=λs:K2=>(s.lb,s.nb,s.d)) D] at e;have e2:=congrArg (λp:Nat×Nat×Int=>p.2.2) e;dsimp only at e2;rw[e2];exact ha i D
def RB.len{Φ hx:F6}(h:RB Φ hx):hx.cO.length=Φ.cO.length:=by simpa using congrArg List.length h
def F6.c8{W:F6}{F:Int}{c b ο an:Nat}(h:F1 F c b ο an W.m):(W.cO.length:Int)=F/\W.x5.length<=ο:=by
  have I:=h.len;have Q:=h.ml;simp only[F6.m,ak] at I Q;exact⟨I,Q⟩
attribute [local irreducible] Β Y GP δ vi GF GE Z Ef C0 E CB GB V.Enters bH K6 dM cU
abbrev Ep:=Yv [.ev 13,.ev 14,.ev 15,.ef 16,.ef 17,.ev 18,.ev 19,.ef 20]
abbrev By:=Yv []
abbrev Bx:=Yw [.ev 17,.ef 18,.ef 19,.ev 20,.ev 21,.ef 22]
def dg{φ ψ:Prop}(k:ψ)(h:Hid ψ->φ:=by intro k;(with_reducible apply Β.a8);first|refine Β.dr 103 6 Ep (Hid.out k)|refine Β.dr 103 12 By (Hid.out k)|refine Β.dr 103 13 Bx (Hid.out k)):φ:=h ⟨k⟩
def Xt{φ ψ:Prop}(k:ψ)(h:Hid ψ->φ:=by intro k;(repeat (first|refine ab ?_|intro B8|refine dg ?_));(repeat revert B8);exact Hid.out k):φ:=h ⟨k⟩
def rX{L:Ι}(wb:Nat)(F:Int)(W0:F6)(b5:Sy W0)(A:Nat)(hr:A<=1000){ο an:Nat}(hM:ο<=100000000000)(h0:F1 F 63 1900 ο an W0.m)(hS:∀Δ,Δ<A->lO F ο an (cy F W0.m Δ)) :
    Υ Λ 22 #[ay wb,K (A:Int)] (F2 wb F W0 L) (λv Ε=>∃W',v=.tuple #[]/\(W'.m=cy F W0.m A/\RB W0 W')/\Ε = F2 wb F W' L):=by
  have Q:=h0.MY;refine Υ.bd ?_;refine Xt ?_;intros;refine Β.loop (α:=Nat×F6) (λg=>g.1<=A/\g.2.m=cy F W0.m g.1/\RB W0 g.2) (λg=>[(0,ay wb),(1,K (A:Int)),(4,K (g.1:Int))]) (λg=>F2 wb F g.2 L) (λg=>A - g.1) (0,W0) ⟨aD _,rfl,rfl⟩ aG (E.refl _) ?_;rintro⟨Δ,W1⟩ ⟨g3,c1,a3⟩;dsimp only at g3 c1 a3 ⊢;by_cases f6:Δ<A
  case neg =>
    have e:Δ=A:=D;subst e;refine Xt ?_;intros;exact KX.c8 aC (E.refl _) ⟨W1,rfl,⟨c1,a3⟩,rfl⟩
  obtain⟨sa,sd⟩:=hS Δ f6;rw[<-c1] at sa sd;have g0:(Δ:Int)<(A:Int):=D;refine Xt ?_;intros;refine Β.loop (α:=Nat×F6) (λg=>(g.1:Int)<=F/\g.2.m=NX W1.m g.1/\RB W1 g.2) (λg=>[(0,ay wb),(1,K (A:Int)),(4,K (Δ:Int)),(5,K (g.1:Int))]) (λg=>F2 wb F g.2 L) (λg=>F.toNat - g.1) (0,W1) ⟨by dsimp only;omega,rfl,rfl⟩ aG (E.refl _) ?_;rintro⟨k,W⟩ ⟨hk,hW,c4⟩;dsimp only at hk hW c4 ⊢;have hI:=sa k hk;rw[<-hW] at hI;obtain⟨f5,I⟩:=F6.c8 hI;have g4:=(a3.trans c4).d b5;by_cases d2:(k:Int)<F
  . have d1:(k:Int).toNat=k:=D
    have c3:k<W.cO.length:=D
    obtain⟨s,hs⟩:∃s,W.cO[k]! = s:=⟨_,rfl⟩
    have e7:s.d=(k:Int):=by have:=g4 k c3;rw[hs] at this;exact this
    have e4:W.m.nd (k:Int)=(s.n.m,s.S):=F6.a8 D (by rw[d1];exact hs)
    have a2:(W.cO.map (·.nb))[(k:Int).toNat]! = s.nb:=by
      rw[<-hs,d1];exact eZ (f:=λs:K2=>s.nb) c3
    have c0:=hI.at (i:=(k:Int)) ⟨D,d2⟩
    rw[e4] at c0
    have e2:=c0.bd
    have e5:=lm (B:=W.B) (b:=1900) ⟨D,d2⟩ hI.MY.2 c0.a e2 ac
    have g2:(W.cO.map (·.nb)).length=W.cO.length:=ak _
    dsimp only at e2 e5
    have d6:NX W1.m (k+1)=Pm W.m (k:Int):=by
      show Pm (NX W1.m k) (k:Int)=_;rw[hW]
    have f0:Pm W.m (k:Int)=W.m.send (k:Int) (cU (k:Int) W.B s.n.m s.S):=by
      unfold Pm;rw[e4];rfl
    simp only[F2,M0]
    have d3:(k:Int)<(W.cO.length:Int):=D
    refine Xt ?_;intros;refine δ.cM (E.at (Φ:=h2 (MN F) W.cO) (pm c3 hs)) ?_
    rw[e7]
    refine δ.cM (Ε:=fh ((W.cO.map (·.nb))[(k:Int).toNat]!) s.lb (k:Int) F s.n (aT s.lb s.S::(h2 (MN F) (W.cO.eraseIdx k)::obj wb Pz [ae W.bD W.cO.length W.id,ae W.I7 W.cO.length W.M5,ae W.gi W.x5.length W.iM,K W.B,ae W.I6 W.h1.length W.K1]::τ du 1 W.bD (W.cO.map (·.lb))::τ du 1 W.I7 (W.cO.map (·.nb))::Ou be 3 B2 W.gi W.iM W.x5::η gO W.x5::μ (eU .i64) 1 C3 W.I6 W.K1 W.h1::L))) (by rw[a2];simp only[fh,hl];exact aj) ?_
    refine δ.ca (rj ((W.cO.map (·.nb))[(k:Int).toNat]!) s.lb (k:Int) F ⟨D,d2⟩ hI.MY.2 s.n s.S I4 c0.a D W.B) ?_
    generalize cU (k:Int) W.B s.n.m s.S=hx at *
    rintro _ _⟨e8,c5,ds,n',rfl,b1,d5,rfl⟩
    have f2:ds.length<=600000000:=by
      have e:=congrArg List.length b1;have:=e5.len
      rw[ak] at e;omega
    simp only[fh,hl]
    refine Xt ?_;intros;refine δ.ef (Ef.j6 (Η:=be) (ys:=ds) rfl rfl rfl rfl rfl (λe _=>ec e) D D) ac ?_
    rintro _ _⟨b8,a6,rfl,rfl⟩
    refine Xt ?_;intros;rw[a2]
    refine⟨(k+1,⟨W.cO.set k { s with n:=n',S:=hx.2.2 },W.bD,W.id,W.I7,W.M5,W.x5++ds,b8,a6,W.B,W.h1,W.I6,W.K1⟩),⟨by dsimp only;omega,?_,?_⟩,by dsimp only;omega,?_,?_⟩
    . dsimp only
      rw[d6,f0]
      have e:=F6.c7 (W:=W) (k:=(k:Int)) (s:=s) n' hx.2.2 ds hx b1 d5 rfl b8 a6
      rw[d1] at e
      exact e
    . exact c4.trans (jk _ hs _ rfl)
    . dsimp only
      rw[bJ k]
      exact aG
    . refine(E.at (Φ:=η gO ds) (E.refl _)).trans ?_
      refine(E.at (Φ:=η gO W.x5) (E.refl _)).trans ?_
      refine(E.c9 (f:=gO) fj).trans ?_
      refine E.trans ?_ (lu c3 hs n' _ _ _ _ _ _ _ _)
      rw[e7]
      simp only[fh,hl]
      exact aj
  have f4:k=F.toNat:=D;subst f4;have d3:¬((F.toNat:Int))<(W.cO.length:Int):=D;rw[<-hW] at sd;have a9:=a3.trans c4;simp only[F2,M0];refine Xt ?_;intros;refine Β.loop (α:=Nat×F6) (λg=>g.1<=400/\g.2.m=Oa F W.m g.1/\RB W g.2) (λg=>[(0,ay wb),(1,K (A:Int)),(4,K (Δ:Int)),(6,K (g.1:Int))]) (λg=>F2 wb F g.2 L) (λg=>400 - g.1) (0,W) ⟨aD _,rfl,rfl⟩ aG (by simp only[F2,M0];exact aj) ?_;rintro⟨k,aa⟩ ⟨d0,hY,b4⟩;dsimp only at d0 hY b4 ⊢;have c2:=sd k d0;rw[<-hY] at c2;obtain⟨g7,e9⟩:=F6.c8 c2;have e0:=(a9.trans b4).d b5
  have a5:(400<=k\/aa.x5=[])->Oa F W.m 400=aa.m:=λh=>by
    rcases h with h|h
    . rw[hY,show k=400 by omega]
    . rw[ny (j:=k) (by rw[<-hY];show aa.x5.map (·.m)=[];rw[h];rfl) 400 d0,hY]
  have a4:Oa F W.m 400=aa.m->aa.m=cy F W0.m (Δ+1):=λh=>by
    show _=iT F (cy F W0.m Δ);unfold iT;rw[<-c1,<-hW,h]
  by_cases e3:k<400
  case neg =>
    have f3:¬(k:Int)<400:=D;refine Xt ?_;intros;refine⟨(Δ+1,aa),⟨by dsimp only;omega,a4 (a5 (.inl D)),a9.trans b4⟩,by dsimp only;omega,?_,E.refl _⟩;dsimp only;rw[bJ Δ];exact aG
  have f3:(k:Int)<400:=D;simp only[F2,M0];by_cases hz:aa.x5.length>0
  case neg =>
    have g6:¬(aa.x5.length:Int)>0:=D;refine Xt ?_;intros;refine⟨(Δ+1,aa),⟨by dsimp only;omega,a4 (a5 (.inr (cc D))),a9.trans b4⟩,by dsimp only;omega,?_,?_⟩
    . dsimp only
      rw[bJ Δ]
      exact aG
    . simp only[F2,M0]
      exact aj
  have g6:(aa.x5.length:Int)>0:=D;have b2:aa.x5[0]!∈aa.x5:=bI hz;have hX:S4 F aa.x5[0]!.m:=c2.O _ (O6 b2)
  have g1:aa.m.O=aa.x5[0]!.m::(aa.x5.drop 1).map (·.m):=by
    show aa.x5.map (·.m)=_;have e:aa.x5=aa.x5[0]!::aa.x5.drop 1:=by rw[E7 hz,<-bZ hz,List.drop_zero]
    conv=>lhs;rw[e]
    rfl
  repeat first|refine Β.sn 12 ?_|refine dz ?_|intro _|refine dg ?_
  rename_i b7;refine Β.cM (E.at (Φ:=η gO aa.x5) (E.d8 (f:=gO) b2)) ?_;rw[show(0:Int).toNat=0 from rfl,show(1:Int).toNat=1 from rfl];generalize aa.x5[0]! = x at *;refine Β.cM (E.at (Φ:=Ou be 3 B2 aa.gi aa.iM aa.x5) (E.m9 (k:=1) D)) ?_;have d4:(aa.x5.drop 1).length=aa.x5.length - 1:=cB;have e1:=hX.x.to;have g5:x.m.to<aa.cO.length:=D;obtain⟨j,hj⟩:∃j,j=x.m.to.toNat:=⟨_,rfl⟩;have c6:j<aa.cO.length:=D;obtain⟨s2,b0⟩:∃s,aa.cO[j]! = s:=⟨_,rfl⟩;have b6:s2.d=x.m.to:=by have:=e0 j c6;rw[b0] at this;omega
  have b3:aa.m.nd x.m.to=(s2.n.m,s2.S):=F6.a8 D (by rw[<-hj];exact b0)
  have a2:(aa.cO.map (·.nb))[x.m.to.toNat]! = s2.nb:=by
    rw[<-b0,hj];exact eZ (f:=λs:K2=>s.nb) D
  have J:=c2.at e1;rw[b3] at J;have e6:=oH (B:=aa.B) e1 J.a hX J.bd ac;have ha:=hX.x.am;have f1:=J.bd;have g2:(aa.cO.map (·.nb)).length=aa.cO.length:=ak _;dsimp only at f1 e6
  have d6:Oa F W.m (k+1)=({ aa.m with O:=(aa.x5.drop 1).map (·.m) }:jA).send x.m.to (dM x.m.to F x.m aa.B s2.n.m s2.S):=by
    show Nv F (Oa F W.m k)=_;rw[<-hY];unfold Nv;rw[g1];dsimp only;rw[Ω e1,b3];rfl
  refine Xt ?_;intros;refine δ.cM (E.at (Φ:=h2 (MN F) aa.cO) (pm c6 b0)) ?_;rw[b6];refine δ.cM (Ε:=gO x::fh ((aa.cO.map (·.nb))[x.m.to.toNat]!) s2.lb x.m.to F s2.n (aT s2.lb s2.S::(h2 (MN F) (aa.cO.eraseIdx j)::obj wb Pz [ae aa.bD aa.cO.length aa.id,ae aa.I7 aa.cO.length aa.M5,ae (NJ aa.gi aa.iM 3 1) (aa.x5.length - 1) (aa.iM - 1),K aa.B,ae aa.I6 aa.h1.length aa.K1]::τ du 1 aa.bD (aa.cO.map (·.lb))::τ du 1 aa.I7 (aa.cO.map (·.nb))::Ou be 3 B2 (NJ aa.gi aa.iM 3 1) (aa.iM - 1) (aa.x5.drop 1)::η gO aa.x5::μ (eU .i64) 1 C3 aa.I6 aa.K1 aa.h1::obj b7 B2 (be x)::L))) (by rw[a2];simp only[fh,hl];exact aj) ?_;refine δ.ca (qA ((aa.cO.map (·.nb))[x.m.to.toNat]!) s2.lb x.m.to F s2.n s2.S I4 x hX.ct (by have:=hX.x.kd;omega) J.a.hin D aa.B) ?_;generalize dM x.m.to F x.m aa.B s2.n.m s2.S=hx at *;rintro _ _⟨e8,c5,ds,n',rfl,b1,d5,rfl⟩
  have f2:ds.length<=3300:=by
    have e:=congrArg List.length b1;have:=e6.len
    rw[ak] at e;omega
  simp only[fh,hl];refine Xt ?_;intros;refine δ.ef (Ef.j6 (Η:=be) (G:=aa.x5.drop 1) (ys:=ds) rfl rfl (by rw[d4]) rfl rfl (λe _=>ec e) D D) ac ?_;rintro _ _⟨b9,a7,rfl,rfl⟩;refine Xt ?_;intros;rw[a2];refine⟨(k+1,⟨aa.cO.set j { s2 with n:=n',S:=hx.2.2 },aa.bD,aa.id,aa.I7,aa.M5,aa.x5.drop 1++ds,b9,a7,aa.B,aa.h1,aa.I6,aa.K1⟩),⟨by dsimp only;omega,?_,?_⟩,by dsimp only;omega,?_,?_⟩
  . dsimp only
    rw[d6,hj]
    exact F6.c7 (W:=⟨aa.cO,aa.bD,aa.id,aa.I7,aa.M5,aa.x5.drop 1,NJ aa.gi aa.iM 3 1,aa.iM - 1,aa.B,aa.h1,aa.I6,aa.K1⟩) (k:=x.m.to) (s:=s2) n' hx.2.2 ds hx b1 d5 rfl b9 a7
  . exact b4.trans (jk _ b0 _ rfl)
  . dsimp only
    rw[bJ k]
    exact aG
  . refine(E.at (Φ:=η gO ds) (E.refl _)).trans ?_
    refine(E.at (Φ:=η gO aa.x5) (E.g9 (l':=aa.x5.drop 1) λy U=>eK U)).trans ?_
    refine(E.c9 (f:=gO) fj).trans ?_
    refine E.trans ?_ (lu c6 b0 n' _ _ _ _ _ _ _ _)
    rw[b6]
    simp only[fh,hl]
    exact aj
end
section
open Go.V
def jr(S:Τ)(s:D7):Τ:={ S with ξ:=(cQ S.D9 S.Μ (fW S.υ) (s.at (cS S)) (Nk S) s.gN).2.ξ,iL:=(cQ S.D9 S.Μ (fW S.υ) (s.at (cS S)) (Nk S) s.gN).2.iL,Ev:=S.Ev++[s.at (cS S)],Μ:=S.Μ++(cQ S.D9 S.Μ (fW S.υ) (s.at (cS S)) (Nk S) s.gN).2.Μ }
theorem qU{S:Τ}{s:D7}(I:S.Ev.length<65536)(Q:gD S.υ S.now s)(h3:(cQ S.D9 S.Μ (fW S.υ) (s.at (cS S)) (Nk S) s.gN).1=0):(E2 S s).1=0/\bN S s=jr S s:=by
  grind [E2,bN,fF,jr]
instance (k:Nat)(m:B1):Decidable (rQ k m):=by unfold rQ;infer_instance
theorem nL{now Ζ B f t x n:Int}{ps:π}(hk:0<=Ζ/\Ζ<=10)(k4:¬Ζ=4)(A:¬Ζ=10)(ht:now<=B/\B<=1099511627776)(hb:rQ 4 ⟨f,t,x,n,ps⟩)(hp:if gW Ζ=true then kf ps n else ps.length=0)(he:iz Ζ ⟨f,t,x,n,ps⟩):gD I4 now (H9 Ζ B [⟨f,t,x,n,ps⟩]):=by
  refine⟨hk,⟨by show(0:Int)<=0;decide,by show(0:Int)<=1073741824;decide⟩,ht,⟨by show 1<=1;decide,by show 1<=64;decide⟩,λm hm=>?_,?_⟩
  . rw[GO hm]
    exact⟨hb,hp⟩
  grind [mX,H9]
theorem cN{S:Τ}{Ζ B:Int}{O:List B1}(I:S.Ev.length<65536)(Q:gD S.υ S.now (H9 Ζ B O))(h3:(cQ S.D9 S.Μ (fW S.υ) ((H9 Ζ B O).at (cS S)) (Nk S) O).1=0) :
    E6 S Ζ B O=true/\L3 S Ζ B O=jr S (H9 Ζ B O)/\Nf S Ζ B O=((jr S (H9 Ζ B O)).Μ.drop S.Μ.length).map (·.r):=by
  obtain⟨e1,e2⟩:=qU (s:=H9 Ζ B O) I Q h3;refine⟨bO e1,e2,?_⟩;unfold Nf ki;grind
def PW:Τ:=jr (L1 0 I4) (H9 0 0 [⟨0,1,0,5,[]⟩])
def Ny:Τ:=jr (L1 1 I4) (H9 0 0 [⟨0,2,1,3,[]⟩])
def MQ:Τ:=jr PW (H9 2 0 [⟨1,268435456,0,5,[]⟩])
def P9:Τ:=jr Ny (H9 2 0 [⟨2,268435456,1,3,[]⟩])
def O8:Τ:=jr MQ (H9 6 0 [⟨268435456,0,0,5,[]⟩])
def SA:Τ:=jr P9 (H9 5 0 [⟨0,2,0,5,[(2,0,5)]⟩])
def MR:Τ:=jr SA (H9 6 0 [⟨268435456,0,1,3,[]⟩])
def M7:Τ:=jr O8 (H9 5 0 [⟨0,1,1,3,[(4294967299,0,3)]⟩])
theorem rm{k:Int}(h:¬(k=5\/k=7\/k=9)){ps:π}{n:Int}(hp:ps.length=0):if gW k=true then kf ps n else ps.length=0:=by
  grind [ph]
theorem Fr{k:Int}(h:k=5\/k=7\/k=9){ps:π}{n:Int}(hp:kf ps n):if gW k=true then kf ps n else ps.length=0:=by
  grind [gW,bO]
def q1:E6 PW 2 0 [⟨1,268435456,0,5,[]⟩]=true/\L3 PW 2 0 [⟨1,268435456,0,5,[]⟩]=MQ/\Nf PW 2 0 [⟨1,268435456,0,5,[]⟩]=[1] :=
  cN (S:=PW) ac (nL ac ac ac ac ac (rm ac rfl) ac) rfl
def q2:E6 Ny 2 0 [⟨2,268435456,1,3,[]⟩]=true/\L3 Ny 2 0 [⟨2,268435456,1,3,[]⟩]=P9/\Nf Ny 2 0 [⟨2,268435456,1,3,[]⟩]=[4294967297] :=
  cN (S:=Ny) ac (nL ac ac ac ac ac (rm ac rfl) ac) rfl
def q3:E6 MQ 6 0 [⟨268435456,0,0,5,[]⟩]=true/\L3 MQ 6 0 [⟨268435456,0,0,5,[]⟩]=O8/\Nf MQ 6 0 [⟨268435456,0,0,5,[]⟩]=[2] :=
  cN (S:=MQ) ac (nL ac ac ac ac ac (rm ac rfl) ac) rfl
def q4:E6 P9 5 0 [⟨0,2,0,5,[(2,0,5)]⟩]=true/\L3 P9 5 0 [⟨0,2,0,5,[(2,0,5)]⟩]=SA/\Nf P9 5 0 [⟨0,2,0,5,[(2,0,5)]⟩]=[4294967298] :=
  cN (S:=P9) ac (nL ac ac ac ac ac (Fr ac ac) ac) rfl
def q5:E6 SA 6 0 [⟨268435456,0,1,3,[]⟩]=true/\L3 SA 6 0 [⟨268435456,0,1,3,[]⟩]=MR/\Nf SA 6 0 [⟨268435456,0,1,3,[]⟩]=[4294967299] :=
  cN (S:=SA) ac (nL ac ac ac ac ac (rm ac rfl) ac) rfl
def q6:E6 O8 5 0 [⟨0,1,1,3,[(4294967299,0,3)]⟩]=true/\L3 O8 5 0 [⟨0,1,1,3,[(4294967299,0,3)]⟩]=M7/\Nf O8 5 0 [⟨0,1,1,3,[(4294967299,0,3)]⟩]=[3] :=
  cN (S:=O8) ac (nL ac ac ac ac ac (Fr ac ac) ac) rfl
def Wv:aW (MQ.ξ 1 0)=0/\aW (M7.ξ 1 1)=3/\aW (MR.ξ 2 0)=5:=⟨rfl,rfl,rfl⟩
theorem pz{d B:Int}{m:fK}{N:ω}{S:Τ}(h:m.to=d)(Ξ:Nat):bH d B (Ξ+1) m N S=bT (bH d B Ξ) (aX d m.Ν m.ct B N S).1 (aX d m.Ν m.ct B N S).2.1 (aX d m.Ν m.ct B N S).2.2:=by
  rw[bH];grind
def tz{d B:Int}(Ξ:Nat):∀{l:List fK} {N:ω} {S:Τ},(∀m∈l,m.to≠d)->bT (bH d B (Ξ+1)) l N S=(l,N,S)
  | [],N,S,_=>rfl
  | m::l,N,S,h=>by
    simp only[bT];rw[kZ (h m au)];dsimp only;rw[tz Ξ λx M=>h x (az _ M)];rfl
theorem jT{d F B:Int}{x:fK}{N:ω}{S:Τ}{R:L6}(I:x.to=d)(Q:0<=x.Ν/\x.Ν<F)(h3:x.Ν≠d)(hh:aX d x.Ν x.ct B N S=R)(ho:∀m∈R.1,m.to≠d):dM d F x B N S=R:=by
  unfold dM;rw[Ω ah,hh];exact tz 6 ho
section
variable {d f B:Int}{m:G4}{N:ω}{S:Τ}
def CO(h:m.Ζ=1):aX d f m B N S=eM d m B N S:=by
  unfold aX;rw[Ω h]
theorem vC(h:m.Ζ=2):aX d f m B N S=eu d f m B N S:=by
  grind [aX]
theorem KM(h:m.Ζ=3):aX d f m B N S=dq d m B N S:=by
  grind [aX]
theorem CN(h:m.Ζ=4):aX d f m B N S=gd f m N S:=by
  grind [aX]
theorem KL(h:m.Ζ=5):aX d f m B N S=dS d f m B N S:=by
  grind [aX]
theorem CM(h:m.Ζ=6):aX d f m B N S=OI m N S:=by
  grind [aX]
end
def PM:x4:=⟨0,1,1,2,[(0,5)]⟩
def Qr:x4:=⟨1,2,0,1,[(1,3)]⟩
def xl:List x4:=[PM,Qr]
def xe(v t:List Int)(Ξ:Bool):K4:=⟨xl,[0,1],9,v,t,Ξ,Ξ⟩
def xp(s:Int)(l:x4)(i st:Int)(fl:List Int):Nl:=⟨s,268435456,[⟨l,i,st,fl⟩]⟩
def XB:ω:=⟨1,0,[(0,xe [] [] false)],[],[]⟩
def NT:ω:=⟨1,1,[(0,xe [0] [] false)],[(0,xp 0 PM 0 0 [])],[]⟩
def RR:ω:=⟨1,1,[(0,xe [0,1] [0] true)],[(0,xp 1 PM 0 1 [2])],[]⟩
def VD:ω:=⟨1,1,[(0,xe [0,1] [0] true)],[(0,xp 1 PM 0 2 [2])],[]⟩
def VE:ω:=⟨1,1,[(0,xe [0,1] [0] true)],[(0,xp 1 PM 0 2 [2])],[(0,1)]⟩
def NF:ω:=⟨1,1,[(0,xe [0,1] [0,1] true)],[(0,xp 1 PM 0 2 [2])],[(0,1)]⟩
def NG:ω:=⟨0,1,[],[(0,xp 0 Qr 1 0 [])],[]⟩
def VF:ω:=⟨0,1,[],[(0,xp 0 Qr 1 0 [])],[(0,0)]⟩
def SB:ω:=⟨0,1,[],[(0,xp 1 Qr 1 1 [4294967299])],[(0,0)]⟩
def OE:ω:=⟨0,1,[],[(0,xp 1 Qr 1 2 [4294967299])],[(0,0)]⟩
def Uu:G4:=⟨1,0,0,false,xl,[]⟩
def Nz:fK:=⟨0,1,Uu⟩
def Qa:fK:=⟨1,0,D4 2 0 0 true⟩
def Tx:fK:=⟨0,1,⟨5,0,0,false,[PM],[2]⟩⟩
def SC:fK:=⟨0,1,D4 3 0 0 true⟩
def Uv:fK:=⟨1,0,D4 6 0 0 false⟩
def Ux:fK:=⟨1,0,⟨5,0,1,false,[Qr],[4294967299]⟩⟩
def Ty:fK:=⟨1,0,D4 4 0 0 false⟩
def Uy:fK:=⟨0,1,D4 6 0 1 false⟩
def Cr{d Κ:Int}{N N' : ω}{S S' : Τ}(h0:ε N.Γ 0=none)(I:E6 S 2 0 (dx (268435456+N.T) (B6 d 0 xl))=true)(Q:L3 S 2 0 (dx (268435456+N.T) (B6 d 0 xl))=S')(h3:{ N with T:=N.T+1,Γ:=ez N.Γ 0 ⟨0,268435456+N.T,B6 d 0 xl⟩ }=N')(Ν:Int):aX d Ν Uu 0 N S=([⟨d,0,D4 2 0 0 true⟩],N',S'):=by
  rw[CO rfl];unfold eM;rw[show ε N.Γ Uu.r=none from h0];dsimp only;rw[Ω (show E6 S 2 0 (dx (268435456+N.T) (B6 d 0 Uu.Α))=true from I)];exact Prod.ext rfl (Prod.ext h3 Q)
def Zq:dM 1 2 Nz 0 N9 Ny=([Qa],NG,P9):=jT rfl ac ac (Cr (Κ:=0) rfl q2.1 q2.2.1 rfl 0) (λm hm=>by rw[GO hm];decide)
def Zr:dM 1 2 Nz 0 NG P9=([Qa],NG,P9):=jT rfl ac ac ((CO rfl).trans Θ) (λm hm=>by rw[GO hm];decide)
def Zs:K6 0 0 [⟨0,0,Uu⟩,Nz] XB PW=([Nz],NT,MQ):=by
  unfold K6;simp only[bT];rw[pz (d:=0) (m:=⟨0,0,Uu⟩) rfl,Cr (d:=0) (Κ:=0) (N:=XB) (S:=PW) rfl q1.1 q1.2.1 rfl 0];simp only[bT];rw[pz (d:=0) (m:=⟨0,0,D4 2 0 0 true⟩) rfl,vC (show(D4 2 0 0 true).Ζ=2 from rfl),kZ (d:=0) (m:=Nz) ac];rfl
theorem Ca{d r:Int}{o:hD}{S S' : Τ}{fl:List Int}(h0:o.state=0)(ht:o.Χ.ts≠d)(I:E6 S 6 0 (B5 268435456 0 o.Χ.am)=true)(Q:L3 S 6 0 (B5 268435456 0 o.Χ.am)=S')(h3:Nf S 6 0 (B5 268435456 0 o.Χ.am)=fl):cG d r 1 268435456 0 [o] S=([fI d r { o with state:=1,Μ:=fl }],[{ o with state:=1,Μ:=fl }],S'):=by
  grind [cG,kB]
def Hl{d Ν:Int}{N N' : ω}{S S' : Τ}{o:hD}{fl:List Int}(hp:ε N.Γ 0=some ⟨0,268435456,[o]⟩)(h:cG d 0 1 268435456 0 [o] S=([fI d 0 { o with state:=1,Μ:=fl }],[{ o with state:=1,Μ:=fl }],S'))(hN:{ N with Γ:=ez N.Γ 0 ⟨1,268435456,[{ o with state:=1,Μ:=fl }]⟩ }=N'):aX d Ν (D4 3 0 0 true) 0 N S=([fI d 0 { o with state:=1,Μ:=fl },⟨d,0,D4 4 0 0 false⟩],N',S'):=by
  rw[KM rfl];unfold dq;rw[show ε N.Γ (D4 3 0 0 true).r=some ⟨0,268435456,[o]⟩ from hp];dsimp only;rw[Ω rfl,show(if(D4 3 0 0 true).yes=true then(1:Int) else 2)=1 from rfl,show cG d (D4 3 0 0 true).r 1 268435456 0 [o] S=_ from h];exact Prod.ext rfl (Prod.ext hN rfl)
def XC:ω:=⟨1,1,[(0,xe [0,1] [] true)],[(0,xp 0 PM 0 0 [])],[]⟩
def Zt:ω:=⟨1,1,[(0,xe [0,1] [] true)],[(0,xp 1 PM 0 1 [2])],[]⟩
def Zu:dM 0 2 Qa 0 NT MQ=([Tx,SC],RR,O8):=by
  have I:aX 0 1 (D4 2 0 0 true) 0 NT MQ=([⟨0,0,D4 3 0 0 true⟩,SC],XC,MQ):=(vC rfl).trans Θ;have Q:aX 0 0 (D4 3 0 0 true) 0 XC MQ=([Tx,⟨0,0,D4 4 0 0 false⟩],Zt,O8):=Hl (o:=⟨PM,0,0,[]⟩) rfl (Ca rfl ac q3.1 q3.2.1 q3.2.2) rfl;unfold dM;rw[Ω (show Qa.to=0/\(0<=Qa.Ν/\Qa.Ν<2)/\Qa.Ν≠0 by decide),show aX 0 Qa.Ν Qa.ct 0 NT MQ=_ from I];unfold K6;simp only[bT];rw[pz (d:=0) (m:=⟨0,0,D4 3 0 0 true⟩) rfl,Q];simp only[bT];rw[kZ (d:=0) (m:=Tx) ac];dsimp only;rw[pz (d:=0) (m:=⟨0,0,D4 4 0 0 false⟩) rfl,CN (show(D4 4 0 0 false).Ζ=4 from rfl),kZ (d:=0) (m:=SC) ac];rfl
theorem Zv:dM 0 2 Qa 0 RR O8=([],RR,O8):=jT rfl ac ac ((vC rfl).trans rfl) ah
theorem xM{d Ν:Int}{N N' : ω}{S S' : Τ}{i:Int}{l:x4}{f:Int}(hr:¬(0,i)∈N.wk)(T:[f].length=l.am.length)(I:E6 S 5 0 (G7 l.to l.am [f])=true)(Q:L3 S 5 0 (G7 l.to l.am [f])=S')(hN:{ N with wk:=N.wk++[(0,i)] }=N'):aX d Ν ⟨5,0,i,false,[l],[f]⟩ 0 N S=([⟨d,Ν,D4 6 0 i false⟩],N',S'):=by
  grind [KL,dS]
def Zw:dM 1 2 Tx 0 NG P9=([Uv],VF,SA):=jT rfl ac ac (xM ac rfl q4.1 q4.2.1 rfl) (λm hm=>by rw[GO hm];decide)
def Zx:dM 1 2 SC 0 VF SA=([Ux,Ty],SB,MR):=jT rfl ac ac (Hl (o:=⟨Qr,1,0,[]⟩) rfl (Ca rfl ac q5.1 q5.2.1 q5.2.2) rfl) (λm hm=>by
  rcases L7 hm with rfl|hm
  . decide
  . rw[GO hm];decide)
theorem Zy:dM 0 2 Uv 0 RR O8=([],VD,O8):=jT rfl ac ac ((CM rfl).trans rfl) ah
def Zz:dM 0 2 Ux 0 VD O8=([Uy],VE,M7):=jT rfl ac ac (xM ac rfl q6.1 q6.2.1 rfl) (λm hm=>by rw[GO hm];decide)
theorem ZA:dM 0 2 Ty 0 VE M7=([],NF,M7):=jT rfl ac ac ((CN rfl).trans rfl) ah
theorem ZB:dM 1 2 Uy 0 SB MR=([],OE,MR):=jT rfl ac ac ((CM rfl).trans rfl) ah
def nQ{N:ω}{k:Int}(h:N.Ψ.map (·.1)++(N.Γ.map (·.1)).filter (λk=>decide ((ε N.Ψ k).isNone=true))=[k]):dZ N=[k]:=by
  unfold dZ nG;rw[h,List.mergeSort_singleton]
def Mq:cU 1 0 N9 Ny=([],N9,Ny):=by
  unfold cU;rw[show dZ N9=[] from List.mergeSort_nil];rfl
def Mp:cU 0 0 NT MQ=([Nz],NT,MQ):=by
  unfold cU;rw[nQ (N:=NT) (k:=0) rfl];have h:MX 0 0 0 NT MQ=([Nz],NT,MQ):=tz 6 (l:=[Nz]) λm hm=>by rw[GO hm];decide
  simp only[bT];unfold PV;rw[h];rfl
def Mo:cU 0 0 NF M7=([],NF,M7):=by
  unfold cU;rw[nQ (N:=NF) (k:=0) rfl]
  have h:K7 0 0 0 NF M7=([],NF,M7):=by
    unfold K7;rw[show ε NF.Γ 0=some (xp 1 PM 0 2 [2]) from rfl];dsimp only;rw[Ω (.inl rfl)]
    have e:B9 0 0 1 268435456 0 ⟨PM,0,2,[2]⟩ M7=([],⟨PM,0,2,[2]⟩,M7):=by
      unfold B9;rw[Ο ac,jS ac]
    have e2:B0 (B9 0 0 (xp 1 PM 0 2 [2]).state (xp 1 PM 0 2 [2]).Κ 0) (xp 1 PM 0 2 [2]).Α M7=([],[⟨PM,0,2,[2]⟩],M7):=by
      show B0 (B9 0 0 1 268435456 0) [⟨PM,0,2,[2]⟩] M7=_;simp only[B0];rw[e];rfl
    rw[e2];rfl
  simp only[bT];unfold PV;rw[show MX 0 0 0 NF M7=([],NF,M7) from rfl,h];rfl
def Mn:cU 1 0 OE MR=([],OE,MR):=by
  unfold cU;rw[nQ (N:=OE) (k:=0) rfl]
  have h:K7 1 0 0 OE MR=([],OE,MR):=by
    unfold K7;rw[show ε OE.Γ 0=some (xp 1 Qr 1 2 [4294967299]) from rfl];dsimp only;rw[Ω (.inl rfl)]
    have e:B9 1 0 1 268435456 0 ⟨Qr,1,2,[4294967299]⟩ MR=([],⟨Qr,1,2,[4294967299]⟩,MR):=by
      unfold B9;rw[Ο ac,jS ac]
    have e2:B0 (B9 1 0 (xp 1 Qr 1 2 [4294967299]).state (xp 1 Qr 1 2 [4294967299]).Κ 0) (xp 1 Qr 1 2 [4294967299]).Α MR=([],[⟨Qr,1,2,[4294967299]⟩],MR):=by
      show B0 (B9 1 0 1 268435456 0) [⟨Qr,1,2,[4294967299]⟩] MR=_;simp only[B0];rw[e];rfl
    rw[e2];rfl
  simp only[bT];unfold PV;rw[show MX 1 0 0 OE MR=([],OE,MR) from rfl,h];rfl
