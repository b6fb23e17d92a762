/- Lemmas. -/
import Derived.Test.YtlgpgjdggilkgaaGreatDoorEtbi
set_option linter.all false
set_option maxHeartbeats 16000000
namespace Go.Proofs.YtlgpgjdggilkgaaGreatDoor
section
open Go.V
abbrev Uu:Nat:=37
abbrev Uv:Nat:=62
def GN{s:ByteArray}(h:(1<=s.size/\s.size<=16)/\gG s 0=3/\∀i:Nat,i<s.size->gG s i=3\/gG s i=4\/gG s i=5):Uh s:=⟨h.1,h.2.1,h.2.2⟩
def Ca:TS I6:=by
  refine⟨by decide,?_,by decide⟩;intro x O;simp only[I6,V0,fI,aG,or_false] at O;rcases O with rfl|rfl|rfl|rfl<;>exact⟨GN (by decide +kernel),by decide,by decide⟩
def OF:υ:=⟨0,0,[],[],[]⟩
structure Vv (l:List Int) (i:Nat) (s:K2):Prop where
  d:s.d=(i:Int)
  n:s.n.m=OF
  sp:Qv i 8 s.S
  z:l=[]->s.S=L3 i I6
structure TA (n:Int) (l:List Int) (W:G1):Prop where
  len:(W.aa.length:Int)=n
  sd:∀i:Nat,i<W.aa.length->Vv l i W.aa[i]!
  Q:W.B4=[]
  E:W.E=0
  gR:W.gR=[]
def xo{d G:Int}{i:Nat}{S:Ρ}(h:Qv d i S):Qh I6 d G OF S :=
  ⟨⟨h.K1,⟨bE 0,by show(0:Int)<=dg S;omega⟩,dq,λp hp=>hD hp aG,λp hp=>hD hp aG⟩,
   ⟨bE 0,dq,dq,λp hp=>hD hp aG,λp hp=>hD hp aG,λp hp=>hD hp aG⟩,
   λk x O=>by cases O⟩
def TA.wd{n:Int}{l:List Int}{W:G1}(h:TA n l W)(hn:1<=n/\n<=12):F8 n 0 8 0 0 W.m:=by
  refine⟨hn,by simp only[G1.m,al];exact h.len,λi hi=>?_,λm hm=>?_,?_,?_,?_⟩
  . simp only[G1.m,al] at hi
    have e:W.m.E7[i]! = W.aa[i]!.m:=eJ (f:=K2.m) hi
    have hs:=h.sd i hi
    rw[e]
    refine⟨?_,?_,?_⟩
    . show Qh I6 i n W.aa[i]!.n.m W.aa[i]!.S
      rw[hs.n]
      exact xo hs.sp
    . show dg W.aa[i]!.S+F0 W.aa[i]!.n.m<=8
      rw[hs.n]
      have:=hs.sp.k
      show dg W.aa[i]!.S+0<=8
      omega
    . show W.aa[i]!.n.m.μ<=0
      rw[hs.n]
      exact bE 0
  . simp only[G1.m,h.Q] at hm
    cases hm
  . simp only[G1.m,h.Q]
    exact an _
  . show 0<=W.E/\W.E<=0
    rw[h.E]
    decide
  . show W.gR.length<=0
    rw[h.gR]
    exact an _
attribute [local irreducible] Α GO GP δ ms GF GE Ev Ef C0 F CB GB V.Enters bJ L9
def ua{L:Η}(n:Int)(hn:1<=n/\n<=12)(ad:OA)(m c:Nat)(l:List Int)[hrd:F2 L ad Int (dJ .i64) 1 l](hm:m=l.length)(hc:m<=c)(O:∀x∈l,vi x) :
    Τ Θ 11 #[J n,ah ad m c] (cc::L) (λv Γ=>∃wb W,v=.tuple #[av wb,.bool true]/\TA n l W/\Γ = B9 wb n W (cc::L)):=by
  subst hm;refine Τ.bd ?_;refine Nd ?_;intros;rename_i bw;refine Α.loop (α:=Nat×(OA×Nat)×(OA×Nat)×List K2) (λg=>((g.1:Int)<=n/\g.2.2.2.length=g.1)/\∀i,i<g.2.2.2.length->Vv l i g.2.2.2[i]!) (λg=>[(0,J n),(1,ah ad l.length c),(6,av bw),(7,J (g.1:Int))]) (λg=>obj bw PK [ah g.2.1.1 g.2.2.2.length g.2.1.2,ah g.2.2.1.1 g.2.2.2.length g.2.2.1.2,ah none 0 0,J 0,ah none 0 0]::Ω dl 1 Uu g.2.1.1 g.2.1.2 (g.2.2.2.map (·.lb))::Ω dl 1 Uv g.2.2.1.1 g.2.2.1.2 (g.2.2.2.map (·.nb))::ey (K5 n) g.2.2.2::cc::L) (λg=>n.toNat - g.1) (0,(none,0),(none,0),[]) ⟨⟨by dsimp only;omega,rfl⟩,λi hi=>hD hi (fN i)⟩ aD ?_ ?_
  . dsimp only
    refine(F.j5 (K5 n)).trans ((F.c8 dl 1 Uv).trans ((F.c8 dl 1 Uu).trans ?_))
    simp only[bz,bu]
    exact ak
  rintro⟨i,⟨bG,hx⟩,⟨I3,No⟩,aa⟩ ⟨⟨hi,a5⟩,a7⟩;dsimp only at hi a5 a7 ⊢;have b5:(aa.map (·.lb)).length=i:=by rw[al];exact a5
  have b7:(aa.map (·.nb)).length=i:=by rw[al];exact a5
  by_cases b6:(i:Int)<n
  case neg =>
    refine Nd ?_;intros;refine KX.a8 aF ?_ ⟨bw,⟨aa,bG,hx,I3,No,[],none,0,0,[],none,0⟩,rfl,⟨by dsimp only;omega,a7,rfl,rfl,rfl⟩,rfl⟩;refine(F.at (Ο:=Ω dl 1 Uu bG hx (aa.map (·.lb))) F.N9).trans ?_;refine(F.at (Ο:=Ω dl 1 Uv I3 No (aa.map (·.nb))) F.N9).trans ?_;refine(F.n8 bq 3 B1).trans ((F.a8 gM).trans ((F.c8 (dJ .i64) 1 B7).trans ?_));simp only[B9,K3,bu];exact ak
  refine Nd ?_;intros;refine GO.ca (vJ) ?_;rintro _ _⟨cv,rfl,⟨b1,b3⟩,rfl⟩;refine Nd ?_;intros;refine GO.cL (Γ:=Oz cv::cc::(obj bw PK [ah bG aa.length hx,ah I3 aa.length No,ah none 0 0,J 0,ah none 0 0]::Ω dl 1 Uu bG hx (aa.map (·.lb))::Ω dl 1 Uv I3 No (aa.map (·.nb))::ey (K5 n) aa::L)) ak ?_;refine GO.ca (EQ (i:Int) cv ⟨D,D⟩ b3 (by rw[b1];exact Ca)) ?_;rintro _ _⟨lb,rfl,rfl⟩;rw[b1];refine Nd ?_;intros;generalize hj:min (l.length:Int) (16*(i:Int))=j at *;have c2:0<=j/\j<=l.length:=D;refine Nd ?_;intros;refine GO.ca (xN (hrd:=F2.drop (I:=l) inferInstance hc j.toNat) (N2 ad c 1 j.toNat) (l.length - j.toNat) (c - j.toNat) (l.drop j.toNat) (by rw[cB]) (λx h=>O x (eM h))) ?_;rintro _ _⟨K0,Qq,ss,rfl,⟨⟨c4,b9⟩,c0⟩,rfl⟩;have hz:l=[]->ss=[]:=λq=>b9 (by rw[q,List.drop_nil]);refine Nd ?_;intros;refine Α.loop (α:=Nat×Ρ) (λg=>g.1<=ss.length/\Qv i g.1 g.2/\(l=[]->g.2=L3 i I6)) (λg=>[(0,J n),(1,ah ad l.length c),(6,av bw),(7,J (i:Int)),(8,av lb),(10,ah K0 ss.length Qq),(11,J (g.1:Int))]) (λg=>aU lb g.2::Ω eK 7 ji K0 Qq ss::Ψ iu ss::obj bw PK [ah bG aa.length hx,ah I3 aa.length No,ah none 0 0,J 0,ah none 0 0]::Ω dl 1 Uu bG hx (aa.map (·.lb))::Ω dl 1 Uv I3 No (aa.map (·.nb))::ey (K5 n) aa::cc::L) (λg=>ss.length - g.1) (0,L3 i I6) ⟨aC _,Qv.zero ⟨D,D⟩,λ_=>rfl⟩ aD (by dsimp only;exact ak) ?_;rintro⟨k,S⟩ ⟨hk,hI,b0⟩;dsimp only at hk hI b0 ⊢;by_cases a2:k<ss.length
  . have b4:(k:Int).toNat=k:=D
    obtain⟨to,x,nn,fH,a9,b8⟩:=c0 _ (bA a2)
    have a6:=bA a2
    have c1:¬l=[]:=λq=>by
      rw[hz q] at a2;exact hD a2 (fN _)
    generalize hsk:ss[k]! = s at *
    obtain⟨p1,p2⟩:=hI.post D b8 fH
    rw[<-a9] at p1 p2
    have hin:=xO to x nn fH
    rw[<-a9] at hin
    have c3:=hI.k
    refine Nd ?_;intros;rw[b4,hsk]
    refine GO.cL (F.at (Ο:=Ψ iu ss) ((F.d8 (f:=iu) a6).trans F.UJ)) ?_
    refine GO.cL (Γ:=aU lb S::stM s::Nu s::(Ω eK 7 ji K0 Qq ss::Ψ iu ss::obj bw PK [ah bG aa.length hx,ah I3 aa.length No,ah none 0 0,J 0,ah none 0 0]::Ω dl 1 Uu bG hx (aa.map (·.lb))::Ω dl 1 Uv I3 No (aa.map (·.nb))::ey (K5 n) aa::cc::L)) ak ?_
    refine GO.ca (kZ lb S (dg S) hI.K1.a (by rw[hI.K1.π];exact hI.K1.ok) hI.K1.now s hin.1 hin.2 (by rw[a9];show dg S+1<=2000;omega) tW) ?_
    rw[p1]
    rintro _ _⟨rfl,rfl⟩
    refine Nd ?_;intros;refine⟨(k+1,bM S s.m),⟨by dsimp only;omega,p2,λq=>hD q c1⟩,by dsimp only;omega,?_,by exact ak⟩
    dsimp only
    rw[bC k]
    exact aD
  refine Nd ?_;intros;refine GO.ca (IJ lb (i:Int) n D b6 hn.2) ?_;rintro _ _⟨nb,mb,mp,mr,rfl,rfl⟩;simp only[eu,gL];refine Nd ?_;intros;refine GO.ef (Ef.a8 (Ε:=dl) (e:=lb) rfl rfl rfl (by rw[al]) rfl bh (wJ _) D D) ae ?_;rintro _ _⟨a3,B,rfl,rfl⟩;refine Nd ?_;intros;refine GO.ef (Ef.a8 (Ε:=dl) (e:=nb) rfl rfl rfl (by rw[al]) rfl bh (wJ _) D D) ae ?_;rintro _ _⟨a4,M,rfl,rfl⟩;refine Nd ?_;intros;have b2:=hI.mono (D:k<=8);refine⟨(i+1,(a3,B),(a4,M),aa++[⟨nb,lb,(i:Int),⟨mb,mp,mr,0,0,[],[],[]⟩,S⟩]),⟨⟨by dsimp only;omega,by simp[a5]⟩,λq hq=>?_⟩,by dsimp only;omega,?_,?_⟩
  . dsimp only at hq ⊢
    rw[ay,aX] at hq
    by_cases h:q<aa.length
    . rw[D7 (by rw[ay];omega),List.getElem_append_left h,<-D7 h]
      exact a7 q h
    . have e:q=aa.length:=D
      subst e
      rw[D7 (by rw[ay,aX];omega),dT (an _)]
      simp only[Nat.sub_self,List.getElem_singleton]
      rw[a5]
      exact⟨rfl,rfl,b2,b0⟩
  . dsimp only
    rw[bC i]
    exact aD
  . dsimp only
    simp only[aQ,aq,bz,ay,al,aX]
    refine F.trans (fG:=eu nb lb (i:Int) n ⟨mb,mp,mr,0,0,[],[],[]⟩ (aU lb S::(ey (K5 n) aa::obj bw PK [ah a3 (aa.length+1) B,ah a4 (aa.length+1) M,ah none 0 0,J 0,ah none 0 0]::Ω dl 1 Uu a3 B (aa.map (·.lb)++[lb])::Ω dl 1 Uv a4 M (aa.map (·.nb)++[nb])::cc::L))) (by simp only[eu,gL];exact ak) ?_
    refine(F.f7 (Ο:=eu nb lb (i:Int) n ⟨mb,mp,mr,0,0,[],[],[]⟩ [aU lb S])).trans ?_
    refine(F.Wl (f:=K5 n) (x:=(⟨nb,lb,(i:Int),⟨mb,mp,mr,0,0,[],[],[]⟩,S⟩:K2))).trans ?_
    exact ak
end
section
open Go.V
noncomputable def PL(W:iK)(k:Int):iK:=W.send k (dv k W.E (W.nd k).1 (W.nd k).2)
noncomputable def Oj(W:iK):Nat->iK
  | 0=>W
  | k+1=>PL (Oj W k) (k:Int)
noncomputable def NO(G:Int)(W:iK):iK:=match W.Q with
  | []=>W
  | m::Q=>if 0<=m.to/\m.to<G then({ W with Q:=Q }:iK).send m.to (dO m.to G m W.E (W.nd m.to).1 (W.nd m.to).2) else { W with Q:=Q }
noncomputable def Ox(G:Int)(W:iK):Nat->iK
  | 0=>W
  | k+1=>NO G (Ox G W k)
noncomputable def iT(G:Int)(W:iK):iK:=Ox G (Oj W G.toNat) 400
noncomputable def cP(G:Int)(W:iK):Nat->iK
  | 0=>W
  | r+1=>iT G (cP G W r)
def mS(G:Int)(ε ac:Nat)(W:iK):Prop:=(∀k:Nat,(k:Int)<=G->F8 G 63 1900 ε ac (Oj W k))/\∀k:Nat,k<=400->F8 G 63 1900 ε ac (Ox G (Oj W G.toNat) k)
def nB{G:Int}{W:iK}{j:Nat}(h:(Ox G W j).Q=[]):∀k,j<=k->Ox G W k=Ox G W j
  | 0,hk=>by rw[show j=0 by omega]
  | k+1,hk=>by
    by_cases e:j=k+1
    . rw[e]
    . have ih:=nB h k D
      show NO G (Ox G W k)=_
      rw[ih]
      unfold NO
      rw[h]
theorem R7.trans{Ο fG C:G1}(K:R7 Ο fG)(T:R7 fG C):R7 Ο C:=Eq.trans T K
def R7.d{Ο fG:G1}(h:R7 Ο fG)(ha:Tz Ο):Tz fG:=λi hi=>by
  have U:fG.aa.length=Ο.aa.length:=by simpa using congrArg List.length h
  have e:=congrArg (λl:List (Nat×Nat×Int)=>l[i]!) h;rw[eJ (f:=λs:K2=>(s.lb,s.nb,s.d)) hi,eJ (f:=λs:K2=>(s.lb,s.nb,s.d)) D] at e;have e2:=congrArg (λp:Nat×Nat×Int=>p.2.2) e;dsimp only at e2;rw[e2];exact ha i D
def R7.len{Ο fG:G1}(h:R7 Ο fG):fG.aa.length=Ο.aa.length:=by simpa using congrArg List.length h
def G1.c8{W:G1}{G:Int}{c b ε ac:Nat}(h:F8 G c b ε ac W.m):(W.aa.length:Int)=G/\W.B4.length<=ε:=by
  have K:=h.len;have T:=h.ml;simp only[G1.m,al] at K T;exact⟨K,T⟩
attribute [local irreducible] Α GO GP δ ms GF GE Ev Ef C0 F CB GB V.Enters bJ L9 dO dv
abbrev Ew:=Zd [.ev 13,.ev 14,.ev 15,.ef 16,.ef 17,.ev 18,.ev 19,.ef 20]
abbrev BC:=Zd []
abbrev BB:=Ze [.ev 17,.ef 18,.ef 19,.ev 20,.ev 21,.ef 22]
def dd{φ ψ:Prop}(k:ψ)(h:Hid ψ->φ:=by intro k;(with_reducible apply Α.a8);first|refine Α.dr 103 6 Ew (Hid.out k)|refine Α.dr 103 12 BC (Hid.out k)|refine Α.dr 103 13 BB (Hid.out k)):φ:=h ⟨k⟩
def XM{φ ψ:Prop}(k:ψ)(h:Hid ψ->φ:=by intro k;(repeat (first|refine ab ?_|intro B6|refine dd ?_));(repeat revert B6);exact Hid.out k):φ:=h ⟨k⟩
def ou{L:Η}(wb:Nat)(G:Int)(W0:G1)(b5:Tz W0)(B:Nat)(hr:B<=1000){ε ac:Nat}(hM:ε<=100000000000)(h0:F8 G 63 1900 ε ac W0.m)(hS:∀r,r<B->mS G ε ac (cP G W0.m r)) :
    Τ Θ 22 #[av wb,J (B:Int)] (B9 wb G W0 L) (λv Γ=>∃W',v=.tuple #[]/\(W'.m=cP G W0.m B/\R7 W0 W')/\Γ = B9 wb G W' L):=by
  have h3:=h0.Nw;refine Τ.bd ?_;refine XM ?_;intros;refine Α.loop (α:=Nat×G1) (λg=>g.1<=B/\g.2.m=cP G W0.m g.1/\R7 W0 g.2) (λg=>[(0,av wb),(1,J (B:Int)),(4,J (g.1:Int))]) (λg=>B9 wb G g.2 L) (λg=>B - g.1) (0,W0) ⟨aC _,rfl,rfl⟩ aD (F.refl _) ?_;rintro⟨r,W1⟩ ⟨g4,c1,a3⟩;dsimp only at g4 c1 a3 ⊢;by_cases g0:r<B
  case neg =>
    have e:r=B:=D;subst e;refine XM ?_;intros;exact KX.c8 aF (F.refl _) ⟨W1,rfl,⟨c1,a3⟩,rfl⟩
  obtain⟨sa,sd⟩:=hS r g0;rw[<-c1] at sa sd;have g1:(r:Int)<(B:Int):=D;refine XM ?_;intros;refine Α.loop (α:=Nat×G1) (λg=>(g.1:Int)<=G/\g.2.m=Oj W1.m g.1/\R7 W1 g.2) (λg=>[(0,av wb),(1,J (B:Int)),(4,J (r:Int)),(5,J (g.1:Int))]) (λg=>B9 wb G g.2 L) (λg=>G.toNat - g.1) (0,W1) ⟨by dsimp only;omega,rfl,rfl⟩ aD (F.refl _) ?_;rintro⟨k,W⟩ ⟨hk,hW,c4⟩;dsimp only at hk hW c4 ⊢;have hI:=sa k hk;rw[<-hW] at hI;obtain⟨f6,T⟩:=G1.c8 hI;have g5:=(a3.trans c4).d b5;by_cases d2:(k:Int)<G
  . have d1:(k:Int).toNat=k:=D
    have c3:k<W.aa.length:=D
    obtain⟨s,hs⟩:∃s,W.aa[k]! = s:=⟨_,rfl⟩
    have e7:s.d=(k:Int):=by have:=g5 k c3;rw[hs] at this;exact this
    have e4:W.m.nd (k:Int)=(s.n.m,s.S):=G1.a8 D (by rw[d1];exact hs)
    have a2:(W.aa.map (·.nb))[(k:Int).toNat]! = s.nb:=by
      rw[<-hs,d1];exact eJ (f:=λs:K2=>s.nb) c3
    have c0:=hI.at (i:=(k:Int)) ⟨D,d2⟩
    rw[e4] at c0
    have e2:=c0.bd
    have e5:=lq (E:=W.E) (b:=1900) ⟨D,d2⟩ hI.Nw.2 c0.a e2 ae
    have g3:(W.aa.map (·.nb)).length=W.aa.length:=al _
    dsimp only at e2 e5
    have d6:Oj W1.m (k+1)=PL W.m (k:Int):=by
      show PL (Oj W1.m k) (k:Int)=_;rw[hW]
    have f0:PL W.m (k:Int)=W.m.send (k:Int) (dv (k:Int) W.E s.n.m s.S):=by
      unfold PL;rw[e4];rfl
    simp only[B9,K3]
    have d3:(k:Int)<(W.aa.length:Int):=D
    refine XM ?_;intros;refine δ.cL (F.at (Ο:=ey (K5 G) W.aa) (nL c3 hs)) ?_
    rw[e7]
    refine δ.cL (Γ:=eu ((W.aa.map (·.nb))[(k:Int).toNat]!) s.lb (k:Int) G s.n (aU s.lb s.S::(ey (K5 G) (W.aa.eraseIdx k)::obj wb PK [ah W.bG W.aa.length W.hx,ah W.I3 W.aa.length W.No,ah W.fH W.B4.length W.iI,J W.E,ah W.I2 W.gR.length W.J4]::ξ dl 1 W.bG (W.aa.map (·.lb))::ξ dl 1 W.I3 (W.aa.map (·.nb))::OS bq 3 B1 W.fH W.iI W.B4::Ψ gM W.B4::Ω (dJ .i64) 1 B7 W.I2 W.J4 W.gR::L))) (by rw[a2];simp only[eu,gL];exact ak) ?_
    refine δ.ca (ri ((W.aa.map (·.nb))[(k:Int).toNat]!) s.lb (k:Int) G ⟨D,d2⟩ hI.Nw.2 s.n s.S I6 c0.a D W.E) ?_
    generalize dv (k:Int) W.E s.n.m s.S=fG at *
    rintro _ _⟨e8,c5,ds,n',rfl,b1,d5,rfl⟩
    have f2:ds.length<=600000000:=by
      have e:=congrArg List.length b1;have:=e5.len
      rw[al] at e;omega
    simp only[eu,gL]
    refine XM ?_;intros;refine δ.ef (Ef.j8 (Ε:=bq) (ys:=ds) rfl rfl rfl rfl rfl (λe _=>eA e) D D) ae ?_
    rintro _ _⟨b8,a6,rfl,rfl⟩
    refine XM ?_;intros;rw[a2]
    refine⟨(k+1,⟨W.aa.set k { s with n:=n',S:=fG.2.2 },W.bG,W.hx,W.I3,W.No,W.B4++ds,b8,a6,W.E,W.gR,W.I2,W.J4⟩),⟨by dsimp only;omega,?_,?_⟩,by dsimp only;omega,?_,?_⟩
    . dsimp only
      rw[d6,f0]
      have e:=G1.c7 (W:=W) (k:=(k:Int)) (s:=s) n' fG.2.2 ds fG b1 d5 rfl b8 a6
      rw[d1] at e
      exact e
    . exact c4.trans (jl _ hs _ rfl)
    . dsimp only
      rw[bC k]
      exact aD
    . refine(F.at (Ο:=Ψ gM ds) (F.refl _)).trans ?_
      refine(F.at (Ο:=Ψ gM W.B4) (F.refl _)).trans ?_
      refine(F.c9 (f:=gM) fq).trans ?_
      refine F.trans ?_ (lx c3 hs n' _ _ _ _ _ _ _ _)
      rw[e7]
      simp only[eu,gL]
      exact ak
  have f4:k=G.toNat:=D;subst f4;have d3:¬((G.toNat:Int))<(W.aa.length:Int):=D;rw[<-hW] at sd;have a9:=a3.trans c4;simp only[B9,K3];refine XM ?_;intros;refine Α.loop (α:=Nat×G1) (λg=>g.1<=400/\g.2.m=Ox G W.m g.1/\R7 W g.2) (λg=>[(0,av wb),(1,J (B:Int)),(4,J (r:Int)),(6,J (g.1:Int))]) (λg=>B9 wb G g.2 L) (λg=>400 - g.1) (0,W) ⟨aC _,rfl,rfl⟩ aD (by simp only[B9,K3];exact ak) ?_;rintro⟨k,χ⟩ ⟨d0,hY,b4⟩;dsimp only at d0 hY b4 ⊢;have c2:=sd k d0;rw[<-hY] at c2;obtain⟨K,e9⟩:=G1.c8 c2;have e0:=(a9.trans b4).d b5
  have a5:(400<=k\/χ.B4=[])->Ox G W.m 400=χ.m:=λh=>by
    rcases h with h|h
    . rw[hY,show k=400 by omega]
    . rw[nB (j:=k) (by rw[<-hY];show χ.B4.map (·.m)=[];rw[h];rfl) 400 d0,hY]
  have a4:Ox G W.m 400=χ.m->χ.m=cP G W0.m (r+1):=λh=>by
    show _=iT G (cP G W0.m r);unfold iT;rw[<-c1,<-hW,h]
  by_cases e3:k<400
  case neg =>
    have f3:¬(k:Int)<400:=D;refine XM ?_;intros;refine⟨(r+1,χ),⟨by dsimp only;omega,a4 (a5 (.inl D)),a9.trans b4⟩,by dsimp only;omega,?_,F.refl _⟩;dsimp only;rw[bC r];exact aD
  have f3:(k:Int)<400:=D;simp only[B9,K3];by_cases hz:χ.B4.length>0
  case neg =>
    have g7:¬(χ.B4.length:Int)>0:=D;refine XM ?_;intros;refine⟨(r+1,χ),⟨by dsimp only;omega,a4 (a5 (.inr (cd D))),a9.trans b4⟩,by dsimp only;omega,?_,?_⟩
    . dsimp only
      rw[bC r]
      exact aD
    . simp only[B9,K3]
      exact ak
  have g7:(χ.B4.length:Int)>0:=D;have b2:χ.B4[0]!∈χ.B4:=bA hz;have hX:Ty G χ.B4[0]!.m:=c2.Q _ (PB b2)
  have g2:χ.m.Q=χ.B4[0]!.m::(χ.B4.drop 1).map (·.m):=by
    show χ.B4.map (·.m)=_;have e:χ.B4=χ.B4[0]!::χ.B4.drop 1:=by rw[D7 hz,<-bY hz,List.drop_zero]
    conv=>lhs;rw[e]
    rfl
  repeat first|refine Α.sn 12 ?_|refine dA ?_|intro _|refine dd ?_
  rename_i b7;refine Α.cL (F.at (Ο:=Ψ gM χ.B4) (F.d8 (f:=gM) b2)) ?_;rw[show(0:Int).toNat=0 from rfl,show(1:Int).toNat=1 from rfl];generalize χ.B4[0]! = x at *;refine Α.cL (F.at (Ο:=OS bq 3 B1 χ.fH χ.iI χ.B4) (F.m6 (k:=1) D)) ?_;have d4:(χ.B4.drop 1).length=χ.B4.length - 1:=cB;have e1:=hX.x.to;have g6:x.m.to<χ.aa.length:=D;obtain⟨j,hj⟩:∃j,j=x.m.to.toNat:=⟨_,rfl⟩;have c6:j<χ.aa.length:=D;obtain⟨s2,b0⟩:∃s,χ.aa[j]! = s:=⟨_,rfl⟩;have b6:s2.d=x.m.to:=by have:=e0 j c6;rw[b0] at this;omega
  have b3:χ.m.nd x.m.to=(s2.n.m,s2.S):=G1.a8 D (by rw[<-hj];exact b0)
  have a2:(χ.aa.map (·.nb))[x.m.to.toNat]! = s2.nb:=by
    rw[<-b0,hj];exact eJ (f:=λs:K2=>s.nb) D
  have M:=c2.at e1;rw[b3] at M;have e6:=oN (E:=χ.E) e1 M.a hX M.bd ae;have ha:=hX.x.am;have f1:=M.bd;have g3:(χ.aa.map (·.nb)).length=χ.aa.length:=al _;dsimp only at f1 e6
  have d6:Ox G W.m (k+1)=({ χ.m with Q:=(χ.B4.drop 1).map (·.m) }:iK).send x.m.to (dO x.m.to G x.m χ.E s2.n.m s2.S):=by
    show NO G (Ox G W.m k)=_;rw[<-hY];unfold NO;rw[g2];dsimp only;rw[Χ e1,b3];rfl
  refine XM ?_;intros;refine δ.cL (F.at (Ο:=ey (K5 G) χ.aa) (nL c6 b0)) ?_;rw[b6];refine δ.cL (Γ:=gM x::eu ((χ.aa.map (·.nb))[x.m.to.toNat]!) s2.lb x.m.to G s2.n (aU s2.lb s2.S::(ey (K5 G) (χ.aa.eraseIdx j)::obj wb PK [ah χ.bG χ.aa.length χ.hx,ah χ.I3 χ.aa.length χ.No,ah (N2 χ.fH χ.iI 3 1) (χ.B4.length - 1) (χ.iI - 1),J χ.E,ah χ.I2 χ.gR.length χ.J4]::ξ dl 1 χ.bG (χ.aa.map (·.lb))::ξ dl 1 χ.I3 (χ.aa.map (·.nb))::OS bq 3 B1 (N2 χ.fH χ.iI 3 1) (χ.iI - 1) (χ.B4.drop 1)::Ψ gM χ.B4::Ω (dJ .i64) 1 B7 χ.I2 χ.J4 χ.gR::obj b7 B1 (bq x)::L))) (by rw[a2];simp only[eu,gL];exact ak) ?_;refine δ.ca (qC ((χ.aa.map (·.nb))[x.m.to.toNat]!) s2.lb x.m.to G s2.n s2.S I6 x hX.ct (by have:=hX.x.kd;omega) M.a.hin D χ.E) ?_;generalize dO x.m.to G x.m χ.E s2.n.m s2.S=fG at *;rintro _ _⟨e8,c5,ds,n',rfl,b1,d5,rfl⟩
  have f2:ds.length<=3300:=by
    have e:=congrArg List.length b1;have:=e6.len
    rw[al] at e;omega
  simp only[eu,gL];refine XM ?_;intros;refine δ.ef (Ef.j8 (Ε:=bq) (I:=χ.B4.drop 1) (ys:=ds) rfl rfl (by rw[d4]) rfl rfl (λe _=>eA e) D D) ae ?_;rintro _ _⟨b9,a7,rfl,rfl⟩;refine XM ?_;intros;rw[a2];refine⟨(k+1,⟨χ.aa.set j { s2 with n:=n',S:=fG.2.2 },χ.bG,χ.hx,χ.I3,χ.No,χ.B4.drop 1++ds,b9,a7,χ.E,χ.gR,χ.I2,χ.J4⟩),⟨by dsimp only;omega,?_,?_⟩,by dsimp only;omega,?_,?_⟩
  . dsimp only
    rw[d6,hj]
    exact G1.c7 (W:=⟨χ.aa,χ.bG,χ.hx,χ.I3,χ.No,χ.B4.drop 1,N2 χ.fH χ.iI 3 1,χ.iI - 1,χ.E,χ.gR,χ.I2,χ.J4⟩) (k:=x.m.to) (s:=s2) n' fG.2.2 ds fG b1 d5 rfl b9 a7
  . exact b4.trans (jl _ b0 _ rfl)
  . dsimp only
    rw[bC k]
    exact aD
  . refine(F.at (Ο:=Ψ gM ds) (F.refl _)).trans ?_
    refine(F.at (Ο:=Ψ gM χ.B4) (F.g8 (l':=χ.B4.drop 1) λy Y=>eM Y)).trans ?_
    refine(F.c9 (f:=gM) fq).trans ?_
    refine F.trans ?_ (lx c6 b0 n' _ _ _ _ _ _ _ _)
    rw[b6]
    simp only[eu,gL]
    exact ak
end
section
open Go.V
def jv(S:Ρ)(s:D6):Ρ:={ S with ν:=(cR S.D8 S.Κ (fV S.π) (s.at (cT S)) (ND S) s.fe).2.ν,id:=(cR S.D8 S.Κ (fV S.π) (s.at (cT S)) (ND S) s.fe).2.id,D9:=S.D9++[s.at (cT S)],Κ:=S.Κ++(cR S.D8 S.Κ (fV S.π) (s.at (cT S)) (ND S) s.fe).2.Κ }
theorem qU{S:Ρ}{s:D6}(K:S.D9.length<65536)(T:gC S.π S.now s)(h3:(cR S.D8 S.Κ (fV S.π) (s.at (cT S)) (ND S) s.fe).1=0):(E2 S s).1=0/\bM S s=jv S s:=by
  grind [E2,bM,fC,jv]
instance (k:Nat)(m:A8):Decidable (rP k m):=by unfold rP;infer_instance
theorem nT{now Δ E f t x n:Int}{ps:ο}(hk:0<=Δ/\Δ<=10)(k4:¬Δ=4)(B:¬Δ=10)(ht:now<=E/\E<=1099511627776)(hb:rP 4 ⟨f,t,x,n,ps⟩)(hp:if gU Δ=true then ki ps n else ps.length=0)(he:iw Δ ⟨f,t,x,n,ps⟩):gC I6 now (H7 Δ E [⟨f,t,x,n,ps⟩]):=by
  refine⟨hk,⟨by show(0:Int)<=0;decide,by show(0:Int)<=1073741824;decide⟩,ht,⟨by show 1<=1;decide,by show 1<=64;decide⟩,λm hm=>?_,?_⟩
  . rw[F6 hm]
    exact⟨hb,hp⟩
  grind [ng,H7]
theorem bI{S:Ρ}{Δ E:Int}{Q:List A8}(K:S.D9.length<65536)(T:gC S.π S.now (H7 Δ E Q))(h3:(cR S.D8 S.Κ (fV S.π) ((H7 Δ E Q).at (cT S)) (ND S) Q).1=0) :
    E6 S Δ E Q=true/\L4 S Δ E Q=jv S (H7 Δ E Q)/\Ny S Δ E Q=((jv S (H7 Δ E Q)).Κ.drop S.Κ.length).map (·.A):=by
  obtain⟨e1,e2⟩:=qU (s:=H7 Δ E Q) K T h3;refine⟨bN e1,e2,?_⟩;unfold Ny km;grind
def Qj:Ρ:=jv (L3 0 I6) (H7 0 0 [⟨0,1,0,5,[]⟩])
def NQ:Ρ:=jv (L3 1 I6) (H7 0 0 [⟨0,2,1,3,[]⟩])
def M4:Ρ:=jv Qj (H7 2 0 [⟨1,268435456,0,5,[]⟩])
def Qw:Ρ:=jv NQ (H7 2 0 [⟨2,268435456,1,3,[]⟩])
def Pw:Ρ:=jv M4 (H7 6 0 [⟨268435456,0,0,5,[]⟩])
def S7:Ρ:=jv Qw (H7 5 0 [⟨0,2,0,5,[(2,0,5)]⟩])
def M5:Ρ:=jv S7 (H7 6 0 [⟨268435456,0,1,3,[]⟩])
def Nq:Ρ:=jv Pw (H7 5 0 [⟨0,1,1,3,[(4294967299,0,3)]⟩])
theorem rj{k:Int}(h:¬(k=5\/k=7\/k=9)){ps:ο}{n:Int}(hp:ps.length=0):if gU k=true then ki ps n else ps.length=0:=by
  grind [po]
theorem Fv{k:Int}(h:k=5\/k=7\/k=9){ps:ο}{n:Int}(hp:ki ps n):if gU k=true then ki ps n else ps.length=0:=by
  grind [gU,bN]
def q1:E6 Qj 2 0 [⟨1,268435456,0,5,[]⟩]=true/\L4 Qj 2 0 [⟨1,268435456,0,5,[]⟩]=M4/\Ny Qj 2 0 [⟨1,268435456,0,5,[]⟩]=[1] :=
  bI (S:=Qj) ae (nT ae ae ae ae ae (rj ae rfl) ae) rfl
def q2:E6 NQ 2 0 [⟨2,268435456,1,3,[]⟩]=true/\L4 NQ 2 0 [⟨2,268435456,1,3,[]⟩]=Qw/\Ny NQ 2 0 [⟨2,268435456,1,3,[]⟩]=[4294967297] :=
  bI (S:=NQ) ae (nT ae ae ae ae ae (rj ae rfl) ae) rfl
def q3:E6 M4 6 0 [⟨268435456,0,0,5,[]⟩]=true/\L4 M4 6 0 [⟨268435456,0,0,5,[]⟩]=Pw/\Ny M4 6 0 [⟨268435456,0,0,5,[]⟩]=[2] :=
  bI (S:=M4) ae (nT ae ae ae ae ae (rj ae rfl) ae) rfl
def q4:E6 Qw 5 0 [⟨0,2,0,5,[(2,0,5)]⟩]=true/\L4 Qw 5 0 [⟨0,2,0,5,[(2,0,5)]⟩]=S7/\Ny Qw 5 0 [⟨0,2,0,5,[(2,0,5)]⟩]=[4294967298] :=
  bI (S:=Qw) ae (nT ae ae ae ae ae (Fv ae ae) ae) rfl
def q5:E6 S7 6 0 [⟨268435456,0,1,3,[]⟩]=true/\L4 S7 6 0 [⟨268435456,0,1,3,[]⟩]=M5/\Ny S7 6 0 [⟨268435456,0,1,3,[]⟩]=[4294967299] :=
  bI (S:=S7) ae (nT ae ae ae ae ae (rj ae rfl) ae) rfl
def q6:E6 Pw 5 0 [⟨0,1,1,3,[(4294967299,0,3)]⟩]=true/\L4 Pw 5 0 [⟨0,1,1,3,[(4294967299,0,3)]⟩]=Nq/\Ny Pw 5 0 [⟨0,1,1,3,[(4294967299,0,3)]⟩]=[3] :=
  bI (S:=Pw) ae (nT ae ae ae ae ae (Fv ae ae) ae) rfl
def WX:aY (M4.ν 1 0)=0/\aY (Nq.ν 1 1)=3/\aY (M5.ν 2 0)=5:=⟨rfl,rfl,rfl⟩
theorem pE{d E:Int}{m:eU}{N:υ}{S:Ρ}(h:m.to=d)(Μ:Nat):bJ d E (Μ+1) m N S=bS (bJ d E Μ) (be d m.Λ m.ct E N S).1 (be d m.Λ m.ct E N S).2.1 (be d m.Λ m.ct E N S).2.2:=by
  rw[bJ];grind
def tz{d E:Int}(Μ:Nat):∀{l:List eU} {N:υ} {S:Ρ},(∀m∈l,m.to≠d)->bS (bJ d E (Μ+1)) l N S=(l,N,S)
  | [],N,S,_=>rfl
  | m::l,N,S,h=>by
    simp only[bS];rw[lf (h m aA)];dsimp only;rw[tz Μ λx O=>h x (az _ O)];rfl
theorem jV{d G E:Int}{x:eU}{N:υ}{S:Ρ}{R:L8}(K:x.to=d)(T:0<=x.Λ/\x.Λ<G)(h3:x.Λ≠d)(hh:be d x.Λ x.ct E N S=R)(ho:∀m∈R.1,m.to≠d):dO d G x E N S=R:=by
  unfold dO;rw[Χ aj,hh];exact tz 6 ho
section
variable {d f E:Int}{m:G3}{N:υ}{S:Ρ}
def CR(h:m.Δ=1):be d f m E N S=eN d m E N S:=by
  unfold be;rw[Χ h]
theorem vy(h:m.Δ=2):be d f m E N S=em d f m E N S:=by
  grind [be]
theorem Lf(h:m.Δ=3):be d f m E N S=dt d m E N S:=by
  grind [be]
theorem CQ(h:m.Δ=4):be d f m E N S=gc f m N S:=by
  grind [be]
theorem Le(h:m.Δ=5):be d f m E N S=dU d f m E N S:=by
  grind [be]
theorem CP(h:m.Δ=6):be d f m E N S=O4 m N S:=by
  grind [be]
end
def P7:lu:=⟨0,1,1,2,[(0,5)]⟩
def QO:lu:=⟨1,2,0,1,[(1,3)]⟩
def xl:List lu:=[P7,QO]
def xe(v t:List Int)(Μ:Bool):K6:=⟨xl,[0,1],9,v,t,Μ,Μ⟩
def xp(s:Int)(l:lu)(i st:Int)(fl:List Int):NF:=⟨s,268435456,[⟨l,i,st,fl⟩]⟩
def XT:υ:=⟨1,0,[(0,xe [] [] false)],[],[]⟩
def Of:υ:=⟨1,1,[(0,xe [0] [] false)],[(0,xp 0 P7 0 0 [])],[]⟩
def Sq:υ:=⟨1,1,[(0,xe [0,1] [0] true)],[(0,xp 1 P7 0 1 [2])],[]⟩
def V6:υ:=⟨1,1,[(0,xe [0,1] [0] true)],[(0,xp 1 P7 0 2 [2])],[]⟩
def V7:υ:=⟨1,1,[(0,xe [0,1] [0] true)],[(0,xp 1 P7 0 2 [2])],[(0,1)]⟩
def NY:υ:=⟨1,1,[(0,xe [0,1] [0,1] true)],[(0,xp 1 P7 0 2 [2])],[(0,1)]⟩
def NZ:υ:=⟨0,1,[],[(0,xp 0 QO 1 0 [])],[]⟩
def V8:υ:=⟨0,1,[],[(0,xp 0 QO 1 0 [])],[(0,0)]⟩
def S8:υ:=⟨0,1,[],[(0,xp 1 QO 1 1 [4294967299])],[(0,0)]⟩
def OZ:υ:=⟨0,1,[],[(0,xp 1 QO 1 2 [4294967299])],[(0,0)]⟩
def U0:G3:=⟨1,0,0,false,xl,[]⟩
def NR:eU:=⟨0,1,U0⟩
def Qy:eU:=⟨1,0,C9 2 0 0 true⟩
def T0:eU:=⟨0,1,⟨5,0,0,false,[P7],[2]⟩⟩
def S9:eU:=⟨0,1,C9 3 0 0 true⟩
def U1:eU:=⟨1,0,C9 6 0 0 false⟩
def U2:eU:=⟨1,0,⟨5,0,1,false,[QO],[4294967299]⟩⟩
def T1:eU:=⟨1,0,C9 4 0 0 false⟩
def U3:eU:=⟨0,1,C9 6 0 1 false⟩
def Ct{d Ι:Int}{N N' : υ}{S S' : Ρ}(h0:ζ N.Β 0=none)(K:E6 S 2 0 (dy (268435456+N.U) (B3 d 0 xl))=true)(T:L4 S 2 0 (dy (268435456+N.U) (B3 d 0 xl))=S')(h3:{ N with U:=N.U+1,Β:=cZ N.Β 0 ⟨0,268435456+N.U,B3 d 0 xl⟩ }=N')(Λ:Int):be d Λ U0 0 N S=([⟨d,0,C9 2 0 0 true⟩],N',S'):=by
  rw[CR rfl];unfold eN;rw[show ζ N.Β U0.A=none from h0];dsimp only;rw[Χ (show E6 S 2 0 (dy (268435456+N.U) (B3 d 0 U0.Z))=true from K)];exact Prod.ext rfl (Prod.ext h3 T)
def ZG:dO 1 2 NR 0 OF NQ=([Qy],NZ,Qw):=jV rfl ae ae (Ct (Ι:=0) rfl q2.1 q2.2.1 rfl 0) (λm hm=>by rw[F6 hm];decide)
def ZH:dO 1 2 NR 0 NZ Qw=([Qy],NZ,Qw):=jV rfl ae ae ((CR rfl).trans Ζ) (λm hm=>by rw[F6 hm];decide)
def ZJ:L9 0 0 [⟨0,0,U0⟩,NR] XT Qj=([NR],Of,M4):=by
  unfold L9;simp only[bS];rw[pE (d:=0) (m:=⟨0,0,U0⟩) rfl,Ct (d:=0) (Ι:=0) (N:=XT) (S:=Qj) rfl q1.1 q1.2.1 rfl 0];simp only[bS];rw[pE (d:=0) (m:=⟨0,0,C9 2 0 0 true⟩) rfl,vy (show(C9 2 0 0 true).Δ=2 from rfl),lf (d:=0) (m:=NR) ae];rfl
theorem Ce{d A:Int}{o:hy}{S S' : Ρ}{fl:List Int}(h0:o.state=0)(ht:o.Υ.ts≠d)(K:E6 S 6 0 (B2 268435456 0 o.Υ.am)=true)(T:L4 S 6 0 (B2 268435456 0 o.Υ.am)=S')(h3:Ny S 6 0 (B2 268435456 0 o.Υ.am)=fl):cG d A 1 268435456 0 [o] S=([fF d A { o with state:=1,Κ:=fl }],[{ o with state:=1,Κ:=fl }],S'):=by
  grind [cG,kD]
def Hx{d Λ:Int}{N N' : υ}{S S' : Ρ}{o:hy}{fl:List Int}(hp:ζ N.Β 0=some ⟨0,268435456,[o]⟩)(h:cG d 0 1 268435456 0 [o] S=([fF d 0 { o with state:=1,Κ:=fl }],[{ o with state:=1,Κ:=fl }],S'))(hN:{ N with Β:=cZ N.Β 0 ⟨1,268435456,[{ o with state:=1,Κ:=fl }]⟩ }=N'):be d Λ (C9 3 0 0 true) 0 N S=([fF d 0 { o with state:=1,Κ:=fl },⟨d,0,C9 4 0 0 false⟩],N',S'):=by
  rw[Lf rfl];unfold dt;rw[show ζ N.Β (C9 3 0 0 true).A=some ⟨0,268435456,[o]⟩ from hp];dsimp only;rw[Χ rfl,show(if(C9 3 0 0 true).yes=true then(1:Int) else 2)=1 from rfl,show cG d (C9 3 0 0 true).A 1 268435456 0 [o] S=_ from h];exact Prod.ext rfl (Prod.ext hN rfl)
def XU:υ:=⟨1,1,[(0,xe [0,1] [] true)],[(0,xp 0 P7 0 0 [])],[]⟩
def ZK:υ:=⟨1,1,[(0,xe [0,1] [] true)],[(0,xp 1 P7 0 1 [2])],[]⟩
def ZL:dO 0 2 Qy 0 Of M4=([T0,S9],Sq,Pw):=by
  have K:be 0 1 (C9 2 0 0 true) 0 Of M4=([⟨0,0,C9 3 0 0 true⟩,S9],XU,M4):=(vy rfl).trans Ζ;have T:be 0 0 (C9 3 0 0 true) 0 XU M4=([T0,⟨0,0,C9 4 0 0 false⟩],ZK,Pw):=Hx (o:=⟨P7,0,0,[]⟩) rfl (Ce rfl ae q3.1 q3.2.1 q3.2.2) rfl;unfold dO;rw[Χ (show Qy.to=0/\(0<=Qy.Λ/\Qy.Λ<2)/\Qy.Λ≠0 by decide),show be 0 Qy.Λ Qy.ct 0 Of M4=_ from K];unfold L9;simp only[bS];rw[pE (d:=0) (m:=⟨0,0,C9 3 0 0 true⟩) rfl,T];simp only[bS];rw[lf (d:=0) (m:=T0) ae];dsimp only;rw[pE (d:=0) (m:=⟨0,0,C9 4 0 0 false⟩) rfl,CQ (show(C9 4 0 0 false).Δ=4 from rfl),lf (d:=0) (m:=S9) ae];rfl
theorem ZM:dO 0 2 Qy 0 Sq Pw=([],Sq,Pw):=jV rfl ae ae ((vy rfl).trans rfl) aj
theorem xJ{d Λ:Int}{N N' : υ}{S S' : Ρ}{i:Int}{l:lu}{f:Int}(hr:¬(0,i)∈N.sh)(U:[f].length=l.am.length)(K:E6 S 5 0 (G7 l.to l.am [f])=true)(T:L4 S 5 0 (G7 l.to l.am [f])=S')(hN:{ N with sh:=N.sh++[(0,i)] }=N'):be d Λ ⟨5,0,i,false,[l],[f]⟩ 0 N S=([⟨d,Λ,C9 6 0 i false⟩],N',S'):=by
  grind [Le,dU]
def ZN:dO 1 2 T0 0 NZ Qw=([U1],V8,S7):=jV rfl ae ae (xJ ae rfl q4.1 q4.2.1 rfl) (λm hm=>by rw[F6 hm];decide)
def ZO:dO 1 2 S9 0 V8 S7=([U2,T1],S8,M5):=jV rfl ae ae (Hx (o:=⟨QO,1,0,[]⟩) rfl (Ce rfl ae q5.1 q5.2.1 q5.2.2) rfl) (λm hm=>by
  rcases Nj hm with rfl|hm
  . decide
  . rw[F6 hm];decide)
theorem ZP:dO 0 2 U1 0 Sq Pw=([],V6,Pw):=jV rfl ae ae ((CP rfl).trans rfl) aj
def ZQ:dO 0 2 U2 0 V6 Pw=([U3],V7,Nq):=jV rfl ae ae (xJ ae rfl q6.1 q6.2.1 rfl) (λm hm=>by rw[F6 hm];decide)
theorem ZR:dO 0 2 T1 0 V7 Nq=([],NY,Nq):=jV rfl ae ae ((CQ rfl).trans rfl) aj
theorem ZS:dO 1 2 U3 0 S8 M5=([],OZ,M5):=jV rfl ae ae ((CP rfl).trans rfl) aj
def nW{N:υ}{k:Int}(h:N.Φ.map (·.1)++(N.Β.map (·.1)).filter (λk=>decide ((ζ N.Φ k).isNone=true))=[k]):ed N=[k]:=by
  unfold ed nK;rw[h,List.mergeSort_singleton]
def MI:dv 1 0 OF NQ=([],OF,NQ):=by
  unfold dv;rw[show ed OF=[] from List.mergeSort_nil];rfl
def MH:dv 0 0 Of M4=([NR],Of,M4):=by
  unfold dv;rw[nW (N:=Of) (k:=0) rfl];have h:Nh 0 0 0 Of M4=([NR],Of,M4):=tz 6 (l:=[NR]) λm hm=>by rw[F6 hm];decide
  simp only[bS];unfold Qi;rw[h];rfl
def MG:dv 0 0 NY Nq=([],NY,Nq):=by
  unfold dv;rw[nW (N:=NY) (k:=0) rfl]
  have h:K8 0 0 0 NY Nq=([],NY,Nq):=by
    unfold K8;rw[show ζ NY.Β 0=some (xp 1 P7 0 2 [2]) from rfl];dsimp only;rw[Χ (.inl rfl)]
    have e:B8 0 0 1 268435456 0 ⟨P7,0,2,[2]⟩ Nq=([],⟨P7,0,2,[2]⟩,Nq):=by
      unfold B8;rw[Ν ae,jU ae]
    have e2:xs (B8 0 0 (xp 1 P7 0 2 [2]).state (xp 1 P7 0 2 [2]).Ι 0) (xp 1 P7 0 2 [2]).Z Nq=([],[⟨P7,0,2,[2]⟩],Nq):=by
      show xs (B8 0 0 1 268435456 0) [⟨P7,0,2,[2]⟩] Nq=_;simp only[xs];rw[e];rfl
    rw[e2];rfl
  simp only[bS];unfold Qi;rw[show Nh 0 0 0 NY Nq=([],NY,Nq) from rfl,h];rfl
def MF:dv 1 0 OZ M5=([],OZ,M5):=by
  unfold dv;rw[nW (N:=OZ) (k:=0) rfl]
  have h:K8 1 0 0 OZ M5=([],OZ,M5):=by
    unfold K8;rw[show ζ OZ.Β 0=some (xp 1 QO 1 2 [4294967299]) from rfl];dsimp only;rw[Χ (.inl rfl)]
    have e:B8 1 0 1 268435456 0 ⟨QO,1,2,[4294967299]⟩ M5=([],⟨QO,1,2,[4294967299]⟩,M5):=by
      unfold B8;rw[Ν ae,jU ae]
    have e2:xs (B8 1 0 (xp 1 QO 1 2 [4294967299]).state (xp 1 QO 1 2 [4294967299]).Ι 0) (xp 1 QO 1 2 [4294967299]).Z M5=([],[⟨QO,1,2,[4294967299]⟩],M5):=by
      show xs (B8 1 0 1 268435456 0) [⟨QO,1,2,[4294967299]⟩] M5=_;simp only[xs];rw[e];rfl
    rw[e2];rfl
  simp only[bS];unfold Qi;rw[show Nh 1 0 0 OZ M5=([],OZ,M5) from rfl,h];rfl
