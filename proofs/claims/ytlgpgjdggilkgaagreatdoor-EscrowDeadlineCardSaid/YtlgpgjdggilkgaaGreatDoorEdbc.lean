/- Lemmas. -/
import Derived.Test.YtlgpgjdggilkgaaGreatDoorEdbb
set_option linter.all false
set_option maxHeartbeats 8000000
namespace Go.Proofs.YtlgpgjdggilkgaaGreatDoor
open Go.V
abbrev Xu:Nat:=157
instance ac7:Qx Λ 157 D6:=W8
def qw{κ:Type}[DecidableEq κ](k:κ):∀l:List κ,((List.lookup k (l.map λg=>(g,true))).map bM).getD (.bool false)=.bool (dB (k∈l))
 | []=>by rw[bz (λh=>iJ h aH)];rfl
 | g::l=>by
  by_cases h:k=g
  .subst h;rw[bO au];simp[bM]
  .have Q:(k == g)=false:=by simpa using h
   have ih:=qw k l;rw[show dB (k∈g::l)=dB (k∈l) by rw[dF,dF];simp[h],<-ih,al,cA];simp only[Q]
def Ke{k:Int×Int}{l:List (Int×Int)}(h:k∈l):((@List.lookup _ _ instBEqOfDecidableEq k (J7 l)).map bM).getD (.bool false)=.bool true :=
 (qw k l).trans (congrArg Value.bool (by rw[dF];simp[h]))
def Ib{k:Int×Int}{l:List (Int×Int)}(h:k∉l):((@List.lookup _ _ instBEqOfDecidableEq k (J7 l)).map bM).getD (.bool false)=.bool false :=
 (qw k l).trans (congrArg Value.bool (by rw[dF];simp[h]))
def JX{l:List (Int×Int)}{k:Int×Int}(h:k∉l):ez (J7 l) k true=J7 (l++[k]):=by
 cases hg:ε (J7 l) k with
 | some b =>
  obtain⟨g,I,Q⟩:=H8 (bR hg);have:g=k:=congrArg Prod.fst Q;exact iJ (this▸I) h
 | none =>
  rw[pM hg];unfold J7;rw[aQ];rfl
def jG(to:Int)(p:(Int×Int)×Int):B1:=⟨0,to,p.1.1,p.1.2,[(p.2,0,p.1.2)]⟩
def G7(to:Int)(am:List (Int×Int))(fl:List Int):List B1:=(am.zip fl).map (jG to)
def nr{to:Int}{am:List (Int×Int)}{fl:List Int}(h:fl.length=am.length):(G7 to am fl).length=am.length:=by
 unfold G7;rw[ak,List.length_zip,h,Nat.min_self]
def KI{to:Int}{am:List (Int×Int)}{fl:List Int}(h:fl.length=am.length){i:Nat}(hi:i<am.length):(G7 to am fl)[i]'(by rw[nr h];exact hi)=jG to (am[i]!,fl[i]!):=by
 unfold G7;rw[eW,List.getElem_zip,E7 hi,E7 D]
theorem kA{to:Int}:∀{am:List (Int×Int)} {fl:List Int},fl.length=am.length->C6 (G7 to am fl)=2*am.length
 | [],[],_=>rfl
 | a::am,f::fl,h=>by
  have ih:=kA (to:=to) (am:=am) (fl:=fl) (by simpa using h);show(1+1)+C6 (G7 to am fl)=_;rw[ih,aL];omega
 | a::am,[],h=>by simp at h
 | [],f::fl,h=>by simp at h
structure SX (to:Int) (am:List (Int×Int)) (fl:List Int) (i:Nat) (zs:List J5):Prop where
 le:i<=am.length
 len:zs.length=am.length
 O:zs.map J5.m=(G7 to am fl).take i++(B5 0 to am).drop i
 cap:∀m∈zs,m.m.Γ.length<=m.J3
def SX.zero{to:Int}{am:List (Int×Int)}{fl:List Int}:SX to am fl 0 (Ns 0 to am):=by
 refine⟨aD _,?_,?_,λm hm=>?_⟩
 .unfold Ns;rw[ak]
 .rw[kj];rfl
 .obtain⟨a,_,rfl⟩:=H8 hm;exact ax _
def SX.at{to:Int}{am:List (Int×Int)}{fl:List Int}{i:Nat}{zs:List J5}(h:SX to am fl i zs)(hf:fl.length=am.length)(hi:i<am.length):zs[i]!.m=⟨0,to,am[i]!.1,am[i]!.2,[]⟩:=by
 have T:=nr (to:=to) hf;have e:=eZ (f:=J5.m) (l:=zs) (i:=i) (by rw[h.len];exact hi);have A:(B5 0 to am).length=am.length:=by unfold B5;rw[ak]
 rw[<-e,h.O,E7 (by rw[aA,aP,cB];omega),eJ (by rw[aP];omega),List.getElem_drop];unfold B5;rw[eW];simp only[aP,T,dE h.le];rw[E7 hi];simp
def SX.next{to:Int}{am:List (Int×Int)}{fl:List Int}{i:Nat}{zs:List J5}(h:SX to am fl i zs)(hf:fl.length=am.length)(hi:i<am.length){z:J5}(hz:z.m=jG to (am[i]!,fl[i]!))(hc:1<=z.J3):SX to am fl (i+1) (zs.set i z):=by
 have T:=nr (to:=to) hf;have A:(B5 0 to am).length=am.length:=by unfold B5;rw[ak]
 refine⟨hi,by rw[bU];exact h.len,?_,λm hm=>?_⟩
 .rw[List.map_set,h.O,fB _ _ (by rw[aP];omega),aP,T,dE h.le,Nat.sub_self,bZ D,fU,aB D,KI hf hi,hz,aF];rfl
 .rcases List.mem_or_eq_of_mem_set hm with q|rfl
  .exact h.cap m q
  .rw[hz];exact hc
noncomputable def dS(d E0:Int)(m:G4)(B:Int)(N:ω)(S:Τ):L6 :=
 if(m.r,m.ai)∈N.wk then([⟨d,E0,D4 6 m.r m.ai false⟩],N,S)
 else if m.Α.length=1/\m.Μ.length=m.Α[0]!.am.length then
  if E6 S 5 B (G7 m.Α[0]!.to m.Α[0]!.am m.Μ)=true then([⟨d,E0,D4 6 m.r m.ai false⟩],{ N with wk:=N.wk++[(m.r,m.ai)] },L3 S 5 B (G7 m.Α[0]!.to m.Α[0]!.am m.Μ)) else([],N,S)
 else([],N,S)
attribute [local irreducible] Β Y GP δ vi GF GE Z Ef C0 E CB GB V.Enters
abbrev Bi:=Ys [.ev 6]
abbrev Bh:=Yv [.ev 13,.ev 14,.ev 15]
abbrev Bg:=Yu [.ef 10,.ev 11]
abbrev Bf:=Yv [.ef 13,.ev 14,.ev 15,.ef 16]
abbrev yA:=Yr [.ev 4,.ef 5]
def Vs{φ ψ:Prop}(k:ψ)(h:Hid ψ->φ:=by intro k;(repeat (first|refine ab ?_|intro B8|refine Β.dr 98 2 Bi ?_|refine Β.dr 98 3 Bh ?_|refine Β.dr 98 5 Bg ?_|refine Β.dr 98 9 Bf ?_|refine Β.dr 98 14 yA ?_));(repeat revert B8);exact Hid.out k):φ:=h ⟨k⟩
def uq{L:Ι}(nb lb:Nat)(d F:Int)(n:G2)(S:Τ)(υ:B4)(hS:NQ d υ (ey S) S)(E0 B:Int)(c:OK)(hc:OL c.m)(hk:∀l∈c.m.Α,ey S+2*l.am.length<=2000) :
  Υ Λ 141 #[ay nb,K E0,bC (eO c),K B] (MV c::fh nb lb d F n (aT lb S::L)) (lQ nb lb d F (dS d E0 c.m B n.m S) L):=by
 have a6:xs c.r:=hc.num.2.1;have a7:xs c.ai:=hc.num.2.2;refine Υ.bd ?_;simp only[fh,hl];refine Β.cM Ab ?_;have c0:c.m.Α.length=c.Α.length:=ak _;refine Vs ?_;intros;refine δ.NV (Z.j6 (k:=(c.r,c.ai)) rfl rfl) ac ?_;by_cases hin:(c.r,c.ai)∈n.wk
 .rw[Ke hin];have hr:dS d E0 c.m B n.m S=([⟨d,E0,D4 6 c.r c.ai false⟩],n.m,S):=Ω hin;refine Vs ?_;intros;refine Y.cM (Ε:=obj nb C5 [ay lb,K d,K F,K n.ν,K n.T,.map (some n.mb),.map (some n.mp),.map (some n.mr)]::MV (OM 6 c.r c.ai false)::(ew gT cz n.mb n.Ψ::h2 I2 n.Ψ::ew gT cC n.mp n.Γ::h2 H6 n.Γ::ew D6 bM n.mr (J7 n.wk)::aT lb S::L)) ((Sd (Ζ:=6) (r:=c.r) (ai:=c.ai) (yes:=false)).trans aj) ?_;refine Y.ca (fE nb lb d F n.ν n.T n.mb n.mp n.mr E0 (OM 6 c.r c.ai false) (jt (Ζ:=6) (by unfold xs;omega) a6 a7)) ?_;rintro _ _⟨y,rfl,U,rfl⟩;simp only[hl];refine Vs ?_;intros;rename_i J;rw[hr];refine KX.a8 aC ?_ ⟨some ⟨J,0,none⟩,1,[y],({ n with wk:=n.wk }:G2),rfl,by rw[al,bu,U];rfl,rfl,rfl⟩;refine(E.at (Φ:=gO y) (E.d7 (f:=gO) fj)).trans ?_;refine(E.at (Φ:=obj J B2 [K y.m.Ν,K y.m.to,ae y.ad (OR y.m.ct).length y.cap]) (E.d9 (Η:=be) (sz:=3) (G:=[y]) (n:=1) (by simp only[aS,cZ,aJ];rfl) rfl (by intro x M;rfl) ac)).trans ?_;simp only[fh,hl];exact aj
 .rw[Ib hin];by_cases I:c.Α.length=1
  .have a3:c.m.Α[0]! = c.Α[0]!.m:=eZ D;by_cases Q:(c.Μ.length:Int)=(c.Α[Int.toNat 0]!.m.am.length:Int)
   .have a2 : c.Μ.length=c.Α[0]!.m.am.length:=by
     rw[show Int.toNat 0=0 from rfl] at Q;omega
    have A:c.Α[0]!∈c.Α:=by rw[E7 D];exact cY D
    have b3:lP c.Α[0]!.m:=hc.lg _ (O6 A);have b8:=b3.2.1;have c3:ey S+2*c.Α[0]!.m.am.length<=2000:=hk _ (O6 A);have c1:=hc.fl;have b1:=hc.fn
    have b0:dS d E0 c.m B n.m S=if E6 S 5 B (G7 c.Α[0]!.m.to c.Α[0]!.m.am c.Μ)=true then([⟨d,E0,D4 6 c.r c.ai false⟩],{ n.m with wk:=n.wk++[(c.r,c.ai)] },L3 S 5 B (G7 c.Α[0]!.m.to c.Α[0]!.m.am c.Μ)) else([],n.m,S):=by
     unfold dS;rw[Ο (show ¬(c.m.r,c.m.ai)∈n.m.wk from hin),Ω (show c.m.Α.length=1/\c.m.Μ.length=c.m.Α[0]!.am.length from⟨D,by rw[a3];exact a2⟩),a3];rfl
    refine Vs ?_;intros;refine δ.cM (E.at (Φ:=η ms c.Α) (E.d8 (f:=ms) A)) ?_;rw[show Int.toNat 0=0 from rfl];refine δ.ca (jz c.Α[0]!.ad _ _ c.Α[0]!.m.am rfl D 0 c.Α[0]!.m.to) ?_;rintro _ _⟨gi,iM,rfl,rfl⟩;refine Vs ?_;intros;rename_i b6 b9;refine Β.loop (α:=Nat×List J5) (λg=>SX c.Α[0]!.m.to c.Α[0]!.m.am c.Μ g.1 g.2) (λg=>[(0,ay nb),(1,K E0),(3,K B),(6,ay b6),(9,ay b9),(10,ae gi g.2.length iM),(54,K (c.Α[0]!.m.am.length:Int)),(55,K (g.1:Int))]) (λg=>μ cq 5 OC gi iM g.2::η Na g.2::τ (eU .i64) 1 c.C4 c.Μ::ms c.Α[0]!::obj b9 Xu [K c.r,K c.ai]::obj b6 Oo (eO c)::obj nb C5 [ay lb,K d,K F,K n.ν,K n.T,.map (some n.mb),.map (some n.mp),.map (some n.mr)]::ew gT cz n.mb n.Ψ::h2 I2 n.Ψ::ew gT cC n.mp n.Γ::h2 H6 n.Γ::ew D6 bM n.mr (J7 n.wk)::aT lb S::L) (λg=>c.Α[0]!.m.am.length - g.1) (0,Ns 0 c.Α[0]!.m.to c.Α[0]!.m.am) SX.zero (by dsimp only;rw[show(Ns 0 c.Α[0]!.m.to c.Α[0]!.m.am).length=c.Α[0]!.m.am.length by unfold Ns;rw[ak]];exact aG) ((E.k7 0 c.Α[0]!.m.to c.Α[0]!.m.am).trans (by dsimp only;exact aj)) ?_;rintro⟨i,zs⟩ hI;dsimp only at hI ⊢;have c5:=hI.len;have c4:=hI.le;by_cases a9:i<c.Α[0]!.m.am.length
    case neg =>
     have c2:=nr (to:=c.Α[0]!.m.to) a2
     have a4:zs.map J5.m=(G7 c.Α[0]!.m.to c.Α[0]!.m.am c.Μ):=by
      rw[hI.O,aN D,bV (by unfold B5;rw[ak];omega),aJ]
     have b4:C6 (G7 c.Α[0]!.m.to c.Α[0]!.m.am c.Μ)=2*c.Α[0]!.m.am.length:=kA a2
     have b7:RN (NR 5 B zs gi iM):=by
      have hm:∀m∈zs,∃a f,f∈c.Μ/\m.m=jG c.Α[0]!.m.to (a,f):=λm hm=>by
       have h3:m.m∈(G7 c.Α[0]!.m.to c.Α[0]!.m.am c.Μ):=by rw[<-a4];exact O6 hm
       unfold G7 at h3;obtain⟨⟨a,f⟩,h4,h5⟩:=H8 h3;exact⟨a,f,(fR h4).2,h5.symm⟩
      refine⟨.inr (.inr (.inr (.inl rfl))),show zs.length<=1000000 by omega,by show xs (-1);unfold xs;omega,λm h=>?_,hI.cap,λm h p hp=>?_⟩
      .obtain⟨a,f,_,e⟩:=hm m h;rw[e];exact(show(1:Nat)<=9223372036854775807 by decide)
      .obtain⟨a,f,hf,e⟩:=hm m h;rw[e] at hp;obtain rfl:=GO hp;exact(b1 f hf).2
     refine Vs ?_;intros;refine Y.cM (Ε:=μ cq 5 OC gi iM zs::η Na zs::obj nb C5 [ay lb,K d,K F,K n.ν,K n.T,.map (some n.mb),.map (some n.mp),.map (some n.mr)]::aT lb S::(obj b9 Xu [K c.r,K c.ai]::obj b6 Oo (eO c)::ew gT cz n.mb n.Ψ::h2 I2 n.Ψ::ew gT cC n.mp n.Γ::h2 H6 n.Γ::ew D6 bM n.mr (J7 n.wk)::L)) aj ?_;refine Y.ca (jv nb lb d F n.ν n.T n.mb n.mp n.mr υ (ey S) S hS 5 B zs gi iM b7 (by rw[a4,b4];omega)) ?_;rw[a4];rintro _ _⟨C4,F3,rfl,rfl⟩;simp only[hl];cases O0:E6 S 5 B (G7 c.Α[0]!.m.to c.Α[0]!.m.am c.Μ) with
     | true =>
      have hr:=b0;rw[Ω O0] at hr;refine Vs ?_;intros;refine δ.No (Ef.d9 (k:=(c.r,c.ai)) (Η:=bM) true rfl rfl rfl rfl) ?_;rintro _ _ rfl;rw[JX hin];refine Vs ?_;intros;refine Y.cM (Ε:=obj nb C5 [ay lb,K d,K F,K n.ν,K n.T,.map (some n.mb),.map (some n.mp),.map (some n.mr)]::MV (OM 6 c.r c.ai false)::(ew gT cz n.mb n.Ψ::h2 I2 n.Ψ::ew gT cC n.mp n.Γ::h2 H6 n.Γ::ew D6 bM n.mr (J7 (n.wk++[(c.r,c.ai)]))::aT lb (L3 S 5 B (G7 c.Α[0]!.m.to c.Α[0]!.m.am c.Μ))::L)) ((Sd (Ζ:=6) (r:=c.r) (ai:=c.ai) (yes:=false)).trans aj) ?_;refine Y.ca (fE nb lb d F n.ν n.T n.mb n.mp n.mr E0 (OM 6 c.r c.ai false) (jt (Ζ:=6) (by unfold xs;omega) a6 a7)) ?_;rintro _ _⟨y,rfl,U,rfl⟩;simp only[hl];refine Vs ?_;intros;rename_i J;rw[hr];refine KX.a8 aC ?_ ⟨some ⟨J,0,none⟩,1,[y],({ n with wk:=(n.wk++[(c.r,c.ai)]) }:G2),rfl,by rw[al,bu,U];rfl,rfl,rfl⟩;refine(E.at (Φ:=gO y) (E.d7 (f:=gO) fj)).trans ?_;refine(E.at (Φ:=obj J B2 [K y.m.Ν,K y.m.to,ae y.ad (OR y.m.ct).length y.cap]) (E.d9 (Η:=be) (sz:=3) (G:=[y]) (n:=1) (by simp only[aS,cZ,aJ];rfl) rfl (by intro x M;rfl) ac)).trans ?_;simp only[fh,hl];exact aj
     | false =>
      have hr:=b0;rw[Ο (by rw[O0];exact fu)] at hr;have b5:=mU O0;rw[b5];refine Vs ?_;intros;rw[hr];refine KX.a8 aC ?_ ⟨none,0,[],n,rfl,rfl,rfl,rfl⟩;refine(E.c8 be 3 B2).trans ((E.c7 gO).trans ?_);simp only[fh,hl];exact aj
    have b2:(i:Int).toNat=i:=D;have a5:=hI.at a2 a9;refine Vs ?_;intros;rename_i bl;rw[b2,show zs[i]!.m.n=c.Α[0]!.m.am[i]!.2 by rw[a5]];refine δ.No (Ef.d7 (Η:=cq) (e:=(⟨⟨0,c.Α[0]!.m.to,c.Α[0]!.m.am[i]!.1,c.Α[0]!.m.am[i]!.2,[(c.Μ[i]!,0,c.Α[0]!.m.am[i]!.2)]⟩,some ⟨bl,0,none⟩,1⟩:J5)) rfl rfl (by rw[show cq zs[i]! = [K zs[i]!.m.Ν,K zs[i]!.m.to,K zs[i]!.m.a1,K zs[i]!.m.n,ae zs[i]!.pad zs[i]!.m.Γ.length zs[i]!.J3] from rfl,a5];rfl) rfl D ac) ?_;rintro _ _ rfl;refine Vs ?_;intros;refine⟨(i+1,zs.set i (⟨⟨0,c.Α[0]!.m.to,c.Α[0]!.m.am[i]!.1,c.Α[0]!.m.am[i]!.2,[(c.Μ[i]!,0,c.Α[0]!.m.am[i]!.2)]⟩,some ⟨bl,0,none⟩,1⟩:J5)),hI.next a2 a9 rfl (ax _),by dsimp only;omega,?_,?_⟩
    .dsimp only;rw[bU,bJ i];exact aG
    .dsimp only;refine(E.at (Φ:=obj bl I5 [K c.Μ[i]!,K 0,K c.Α[0]!.m.am[i]!.2]) (E.d9 (Η:=aK) (sz:=3) (G:=[((c.Μ[i]!,0,c.Α[0]!.m.am[i]!.2):iK)]) (n:=1) aY rfl (by intro x M;rfl) ac)).trans ?_;refine E.NZ.trans ?_;refine(E.at (Φ:=η Na zs) (E.refl _)).trans ?_;refine(E.at (Φ:=τ aK 3 (some ⟨bl,0,none⟩) [((c.Μ[i]!,0,c.Α[0]!.m.am[i]!.2):iK)]) (E.j7 (f:=Na) (l:=zs) (i:=i) (x:=(⟨⟨0,c.Α[0]!.m.to,c.Α[0]!.m.am[i]!.1,c.Α[0]!.m.am[i]!.2,[(c.Μ[i]!,0,c.Α[0]!.m.am[i]!.2)]⟩,some ⟨bl,0,none⟩,1⟩:J5)) kq)).trans ?_;exact aj
   .have hr:dS d E0 c.m B n.m S=([],n.m,S):=by
     unfold dS
     rw[Ο (show ¬(c.m.r,c.m.ai)∈n.m.wk from hin),Ο (λq=>Q (by
      have q2:=q.2;rw[a3] at q2;rw[show Int.toNat 0=0 from rfl];have q3:c.Μ.length=c.Α[0]!.m.am.length:=q2;omega))]
    refine Vs ?_;intros;rw[hr];refine KX.a8 aC ?_ ⟨none,0,[],n,rfl,rfl,rfl,rfl⟩;refine(E.c8 be 3 B2).trans ((E.c7 gO).trans ?_);simp only[fh,hl];exact aj
  .have hr:dS d E0 c.m B n.m S=([],n.m,S):=by
    unfold dS;rw[Ο (show ¬(c.m.r,c.m.ai)∈n.m.wk from hin),Ο (λq=>I D)]
   refine Vs ?_;intros;rw[hr];refine KX.a8 aC ?_ ⟨none,0,[],n,rfl,rfl,rfl,rfl⟩;refine(E.c8 be 3 B2).trans ((E.c7 gO).trans ?_);simp only[fh,hl];exact aj
end Go.Proofs.YtlgpgjdggilkgaaGreatDoor
namespace Go.V
section
variable {P:Program}{env:Env}{L:Ι}{ty:TypeId}{κ α:Type}[DecidableEq κ]
theorem Ef.P5{t:TypeId}{x y z' : Operand}{b Ρ ζ:Nat}{z v A:Value}{kv:κ->Value}{Η:α->Value}{m:List (κ×α)}{G1:Ι}{k:κ}(e:α)[ht:PD P t Ρ ζ z][hk:Qx P Ρ kv][hp:Qg L b κ α kv Η m G1](M:bG env x=some (.map (some b)))(U:bG env y=some A)(hz:bG env z' = some v)[a3:RX kv A k](hv:v=Η e)
  : Ef P L env (.insert t x y z') ty (λ_ Ε=>Ε = ew kv Η b (ez m k e)::G1):=by
 rintro θ R a w ⟨a2,a4,J,pos,af,g⟩ next F9 ha s rfl rfl hn
 exact Ef.d9 (ty:=J) e M U hz hv θ R a w ⟨a2,.mapUpdate t x y z',J,pos,af,g⟩ next F9 ha s rfl rfl hn
end
end Go.V
namespace Go.Proofs.YtlgpgjdggilkgaaGreatDoor
section
open Go.V
def jZ(f:Nat):Value:=.func (.func f) #[] #[]
def SY:List (Int×Nat):=[(1,137),(2,138),(3,139),(4,140),(5,141),(6,142)]
noncomputable def aX(d E0:Int)(m:G4)(B:Int)(N:ω)(S:Τ):L6 :=
 if m.Ζ=1 then eM d m B N S
 else if m.Ζ=2 then eu d E0 m B N S
 else if m.Ζ=3 then dq d m B N S
 else if m.Ζ=4 then gd E0 m N S
 else if m.Ζ=5 then dS d E0 m B N S
 else if m.Ζ=6 then OI m N S
 else([],N,S)
def F0(N:ω):Nat:=(N.Γ.map λp=>cl p.2.Α).sum
def Nu(ls:List x4):Nat:=(ls.map λl=>l.am.length).sum
def rp{α:Type}{f:α->Nat}:∀{l:List α} {x:α},x∈l->f x<=(l.map f).sum
 | y::l,x,h=>by
  rw[al,aR];rcases L7 h with rfl|h
  .omega
  .have:=rp (f:=f) h;omega
def lx{N:ω}{p:Int×Nl}(h:p∈N.Γ):cl p.2.Α<=F0 N:=rp (f:=λp:Int×Nl=>cl p.2.Α) h
def vQ{ls:List x4}{l:x4}(h:l∈ls):l.am.length<=Nu ls:=rp (f:=λl:x4=>l.am.length) h
def oM(d:Int):∀(k:Int) (ls:List x4),cl (B6 d k ls)<=Nu ls
 | _,[]=>ax _
 | k,l::ls=>by
  have ih:=oM d (k+1) ls;have e:Nu (l::ls)=l.am.length+Nu ls:=by unfold Nu;rw[al,aR]
  rw[e];unfold B6;split
  .have e2:∀(a:hD) (q:List hD),cl (a::q)=dU a+cl q:=λa q=>by unfold cl;rw[al,aR]
   rw[e2,show dU ⟨l,k,0,[]⟩=l.am.length from Ω rfl];omega
  .omega
structure Nn (υ:B4) (d:Int) (N:ω) (S:Τ):Prop where
 J1:NQ d υ (ey S) S
 T:0<=N.T/\N.T<=ey S
 nd:(N.Γ.map (·.1)).Nodup
 Ot:∀p∈N.Ψ,p.2.lq.length<=100
 pts:∀p∈N.Γ,UT p.2
def Nn.Zk{υ:B4}{d:Int}{n:G2}{S:Τ}(h:Nn υ d n.m S):∀p∈n.Ψ,p.2.lq.length<=100:=λp hp=>h.Ot (p.1,p.2.m) (List.mem_map.2 ⟨p,hp,rfl⟩)
theorem Nn.Wm{υ:B4}{d:Int}{n:G2}{S:Τ}(h:Nn υ d n.m S):∀p∈n.Γ,p.2.Α.length<=1000:=λp hp=>by
 have:=(h.pts (p.1,p.2.m) (List.mem_map.2 ⟨p,hp,rfl⟩)).Α
 grind [J6.m]
attribute [local irreducible] Β Y GP δ vi GF GE Z Ef C0 E CB GB V.Enters
theorem si{L:Ι}(nb lb:Nat)(d F:Int)(n:G2)(S:Τ)(υ:B4)(x:N7)(J:OL x.m.ct)(hN:Nn υ d n.m S)(hk:ey S+F0 n.m+2*Nu x.m.ct.Α<=2000)(B:Int) :
  Υ Λ 87 #[ay nb,bC (be x),K B] (gO x::fh nb lb d F n (aT lb S::L)) (lQ nb lb d F (aX d x.m.Ν x.m.ct B n.m S) L):=by
 refine Υ.bd ?_;refine ML ?_;intros;refine Y.ef (Ef.c8 gT jZ (.inl rfl)) ac ?_;rintro _ _⟨bm,rfl,rfl⟩;refine Y.No (Ef.P5 (Η:=jZ) 137 rfl rfl rfl rfl) ?_;rintro _ _ rfl;refine Y.No (Ef.P5 (Η:=jZ) 138 rfl rfl rfl rfl) ?_;rintro _ _ rfl;refine Y.No (Ef.P5 (Η:=jZ) 139 rfl rfl rfl rfl) ?_;rintro _ _ rfl;refine Y.No (Ef.P5 (Η:=jZ) 140 rfl rfl rfl rfl) ?_;rintro _ _ rfl;refine Y.No (Ef.P5 (Η:=jZ) 141 rfl rfl rfl rfl) ?_;rintro _ _ rfl;refine Y.No (Ef.P5 (Η:=jZ) 142 rfl rfl rfl rfl) ?_;rintro _ _ rfl;rw[show(ez (ez (ez (ez (ez (ez ([]:List (Int×Nat)) 1 137) 2 138) 3 139) 4 140) 5 141) 6 142)=SY from rfl];refine ML ?_;intros;refine Y.ca (BV x.ad (OR x.m.ct).length x.cap x.m.ct J rfl) ?_;rintro _ _⟨c,rfl,hc,rfl⟩;have A:OL c.m:=by rw[hc];exact J
 rw[<-hc] at hk;refine ML ?_;intros;by_cases I:c.Ζ=1
 .have hr:aX d x.m.Ν x.m.ct B n.m S=eM d x.m.ct B n.m S:=by
   unfold aX;rw[Ω (show x.m.ct.Ζ=1 by rw[<-hc];exact I)]
  refine Y.ev (Z.a8 rfl rfl) ac ?_;rw[show List.lookup c.Ζ SY=some 137 by rw[I];rfl];dsimp only[Option.map,Option.getD,Option.isSome,jZ];refine ML ?_;intros;refine Y.cM (Ε:=MV c::fh nb lb d F n (aT lb S::L)) aj ?_;refine Y.ef (Ef.c7 (first:=[]) (cap:=[]) (vs:=[ay nb,K x.m.Ν,bC (eO c),K B]) (vt nb lb d F n S υ hN.J1 ⟨hN.T.1,by have h:=hN.T.2;have e:n.m.T=n.T:=rfl;omega⟩ x.m.Ν B c A (by have:=oM d 0 c.m.Α;omega)) rfl rfl) ac ?_;intro v Ε hv;refine ML ?_;intros;rw[hr,<-hc];refine KX.a8 aC (E.refl _) ?_;exact hv
 by_cases Q:c.Ζ=2
 .have hr:aX d x.m.Ν x.m.ct B n.m S=eu d x.m.Ν x.m.ct B n.m S:=by
   unfold aX;rw[Ο (show ¬x.m.ct.Ζ=1 by rw[<-hc];exact I),Ω (show x.m.ct.Ζ=2 by rw[<-hc];exact Q)]
  refine Y.ev (Z.a8 rfl rfl) ac ?_;rw[show List.lookup c.Ζ SY=some 138 by rw[Q];rfl];dsimp only[Option.map,Option.getD,Option.isSome,jZ];refine ML ?_;intros;refine Y.cM (Ε:=MV c::fh nb lb d F n (aT lb S::L)) aj ?_;refine Y.ef (Ef.c7 (first:=[]) (cap:=[]) (vs:=[ay nb,K x.m.Ν,bC (eO c),K B]) (Υ.pre (L:=MV c::fh nb lb d F n (aT lb S::L)) (BG nb lb d F n S x.m.Ν B c A.num.2.1 hN.Zk) E.drop) rfl rfl) ac ?_;intro v Ε hv;refine ML ?_;intros;rw[hr,<-hc];refine KX.a8 aC (E.refl _) ?_;exact hv
 by_cases h3:c.Ζ=3
 .have hr:aX d x.m.Ν x.m.ct B n.m S=dq d x.m.ct B n.m S:=by
   unfold aX;rw[Ο (show ¬x.m.ct.Ζ=1 by rw[<-hc];exact I),Ο (show ¬x.m.ct.Ζ=2 by rw[<-hc];exact Q),Ω (show x.m.ct.Ζ=3 by rw[<-hc];exact h3)]
  refine Y.ev (Z.a8 rfl rfl) ac ?_;rw[show List.lookup c.Ζ SY=some 139 by rw[h3];rfl];dsimp only[Option.map,Option.getD,Option.isSome,jZ];refine ML ?_;intros;refine Y.cM (Ε:=MV c::fh nb lb d F n (aT lb S::L)) aj ?_;refine Y.ef (Ef.c7 (first:=[]) (cap:=[]) (vs:=[ay nb,K x.m.Ν,bC (eO c),K B]) (Υ.pre (L:=MV c::fh nb lb d F n (aT lb S::L)) (xh nb lb d F n S υ hN.J1 x.m.Ν B c A.num.2.1 hN.pts (λp hp=>by have:=lx hp;omega)) E.drop) rfl rfl) ac ?_;intro v Ε hv;refine ML ?_;intros;rw[hr,<-hc];refine KX.a8 aC (E.refl _) ?_;exact hv
 by_cases h4:c.Ζ=4
 .have hr:aX d x.m.Ν x.m.ct B n.m S=gd x.m.Ν x.m.ct n.m S:=by
   unfold aX;rw[Ο (show ¬x.m.ct.Ζ=1 by rw[<-hc];exact I),Ο (show ¬x.m.ct.Ζ=2 by rw[<-hc];exact Q),Ο (show ¬x.m.ct.Ζ=3 by rw[<-hc];exact h3),Ω (show x.m.ct.Ζ=4 by rw[<-hc];exact h4)]
  refine Y.ev (Z.a8 rfl rfl) ac ?_;rw[show List.lookup c.Ζ SY=some 140 by rw[h4];rfl];dsimp only[Option.map,Option.getD,Option.isSome,jZ];refine ML ?_;intros;refine Y.cM (Ε:=MV c::fh nb lb d F n (aT lb S::L)) aj ?_;refine Y.ef (Ef.c7 (first:=[]) (cap:=[]) (vs:=[ay nb,K x.m.Ν,bC (eO c),K B]) (Υ.pre (L:=MV c::fh nb lb d F n (aT lb S::L)) (BH nb lb d F n S x.m.Ν B c) E.drop) rfl rfl) ac ?_;intro v Ε hv;refine ML ?_;intros;rw[hr,<-hc];refine KX.a8 aC (E.refl _) ?_;exact hv
 by_cases h5:c.Ζ=5
 .have hr:aX d x.m.Ν x.m.ct B n.m S=dS d x.m.Ν x.m.ct B n.m S:=by
   unfold aX;rw[Ο (show ¬x.m.ct.Ζ=1 by rw[<-hc];exact I),Ο (show ¬x.m.ct.Ζ=2 by rw[<-hc];exact Q),Ο (show ¬x.m.ct.Ζ=3 by rw[<-hc];exact h3),Ο (show ¬x.m.ct.Ζ=4 by rw[<-hc];exact h4),Ω (show x.m.ct.Ζ=5 by rw[<-hc];exact h5)]
  refine Y.ev (Z.a8 rfl rfl) ac ?_;rw[show List.lookup c.Ζ SY=some 141 by rw[h5];rfl];dsimp only[Option.map,Option.getD,Option.isSome,jZ];refine ML ?_;intros;refine Y.cM (Ε:=MV c::fh nb lb d F n (aT lb S::L)) aj ?_;refine Y.ef (Ef.c7 (first:=[]) (cap:=[]) (vs:=[ay nb,K x.m.Ν,bC (eO c),K B]) (uq nb lb d F n S υ hN.J1 x.m.Ν B c A (λl T=>by have:=vQ T;omega)) rfl rfl) ac ?_;intro v Ε hv;refine ML ?_;intros;rw[hr,<-hc];refine KX.a8 aC (E.refl _) ?_;exact hv
 by_cases h6:c.Ζ=6
 .have hr:aX d x.m.Ν x.m.ct B n.m S=OI x.m.ct n.m S:=by
   unfold aX;rw[Ο (show ¬x.m.ct.Ζ=1 by rw[<-hc];exact I),Ο (show ¬x.m.ct.Ζ=2 by rw[<-hc];exact Q),Ο (show ¬x.m.ct.Ζ=3 by rw[<-hc];exact h3),Ο (show ¬x.m.ct.Ζ=4 by rw[<-hc];exact h4),Ο (show ¬x.m.ct.Ζ=5 by rw[<-hc];exact h5),Ω (show x.m.ct.Ζ=6 by rw[<-hc];exact h6)]
  refine Y.ev (Z.a8 rfl rfl) ac ?_;rw[show List.lookup c.Ζ SY=some 142 by rw[h6];rfl];dsimp only[Option.map,Option.getD,Option.isSome,jZ];refine ML ?_;intros;refine Y.cM (Ε:=MV c::fh nb lb d F n (aT lb S::L)) aj ?_;refine Y.ef (Ef.c7 (first:=[]) (cap:=[]) (vs:=[ay nb,K x.m.Ν,bC (eO c),K B]) (Υ.pre (L:=MV c::fh nb lb d F n (aT lb S::L)) (Ex nb lb d F n S x.m.Ν B c hN.Wm) E.drop) rfl rfl) ac ?_;intro v Ε hv;refine ML ?_;intros;rw[hr,<-hc];refine KX.a8 aC (E.refl _) ?_;exact hv
 have hr:aX d x.m.Ν x.m.ct B n.m S=([],n.m,S):=by
  unfold aX;rw[Ο (show ¬x.m.ct.Ζ=1 by rw[<-hc];exact I),Ο (show ¬x.m.ct.Ζ=2 by rw[<-hc];exact Q),Ο (show ¬x.m.ct.Ζ=3 by rw[<-hc];exact h3),Ο (show ¬x.m.ct.Ζ=4 by rw[<-hc];exact h4),Ο (show ¬x.m.ct.Ζ=5 by rw[<-hc];exact h5),Ο (show ¬x.m.ct.Ζ=6 by rw[<-hc];exact h6)]
 refine Y.ev (Z.a8 rfl rfl) ac ?_
 rw[show List.lookup c.Ζ SY=none by
  grind [SY]]
 dsimp only[Option.map,Option.getD,Option.isSome];refine ML ?_;intros;rw[hr];refine KX.a8 aC ?_ ⟨none,0,[],n,rfl,rfl,rfl,rfl⟩;refine(E.c8 be 3 B2).trans ((E.c7 gO).trans ?_);simp only[fh,hl];exact aj
end
section
open Go.V
structure Ry (d kd:Int) (y:fK):Prop where
 ct:OL y.ct
 Ζ:kd<y.ct.Ζ
 le:y.ct.Ζ<=6
 Ν:y.Ν=d
 sh:y.to=d->y.ct.Α=[]
theorem jR{κ α:Type}[DecidableEq κ]{l:List (κ×α)}{k:κ}{a:α}{p:κ×α}(h:p∈ez l k a):p=(k,a)\/p∈l:=by
 grind [ez]
theorem yq{l l' : List (Int×Nl)}(h:l.Perm l'):(l.map λp=>cl p.2.Α).sum=(l'.map λp=>cl p.2.Α).sum:=ah
theorem rA{N:ω}{r:Int}{p q:Nl}(hn:(N.Γ.map (·.1)).Nodup)(h:ε N.Γ r=some p):F0 { N with Γ:=ez N.Γ r q }+cl p.Α=F0 N+cl q.Α:=by
 have I:=yq (qT (k:=r) (a:=q) hn);have Q:=yq (me hn h);grind [F0]
theorem oK{N:ω}{r:Int}{q:Nl}(hn:(N.Γ.map (·.1)).Nodup)(h:ε N.Γ r=none):F0 { N with Γ:=ez N.Γ r q }=F0 N+cl q.Α:=by
 grind [F0,pM]
theorem tx{S:Τ}{Ζ B:Int}{O:List B1}(h:E6 S Ζ B O=true):(E2 S (H9 Ζ B O)).1=0/\1<=O.length/\O.length<=64:=by
 have he:(E2 S (H9 Ζ B O)).1=0:=by
  refine Classical.byContradiction λq=>?_;unfold E6 at h;rw[bz q] at h;cases h
 exact⟨he,(jf he).2.2.2.1⟩
theorem nv{S:Τ}{Ζ B:Int}{O:List B1}(h:E6 S Ζ B O=true):ey (L3 S Ζ B O)=ey S+C6 O:=by
 rw[jp,Ω (tx h).1];rfl
theorem rG:∀O:List B1,O.length<=C6 O
 | []=>ax _
 | m::O=>by
  have:=rG O
  show O.length+1<=(m.Γ.length+1)+C6 O;omega
theorem uF{S:Τ}{s:D7}:ey S<=ey (bN S s):=by
 rw[jp];split<;>omega
theorem Cb{d r cN Κ B:Int}{o:hD}{S:Τ}:ey S<=ey (bY d r cN Κ B o S).2.2:=by
 by_cases h0:o.state=0
 .by_cases hB:cN=1/\o.Χ.ts≠d
  .grind [kB,uF]
  .obtain⟨to,ht⟩:∃to,to=if cN=2 then o.Χ.fr else o.Χ.to:=⟨_,rfl⟩;rw[ja h0 hB ht];grind [uF]
 .rw[jS h0];grind
theorem vc{d r cN Κ B:Int}:∀{os:List hD} {S:Τ},ey S<=ey (cG d r cN Κ B os S).2.2
 | [],S=>ax _
 | o::os,S=>by
  simp only[cG];exact aO Cb vc
theorem xD{d r cN Κ B:Int}{o:hD}{S:Τ}{c:B4}(hS:NQ d c (ey S) S)(hk:ey S+dU o<=2000)(a2:xs r)(ho:QU o):QU (bY d r cN Κ B o S).2.1/\∀y∈(bY d r cN Κ B o S).1,Ry d 3 y:=by
 by_cases h0:o.state=0
 .have hh:dU o=o.Χ.am.length:=Ω h0;by_cases hB:cN=1/\o.Χ.ts≠d
  .rw[kB h0 hB];split
   .rename_i hg;have A:ey S+C6 (B5 Κ 0 o.Χ.am)<=2000:=by rw[gX];omega
    have I:=zK hS A hg;have Q:=GW hS (Ζ:=6) (B:=B) A;have J:QU { o with state:=1,Μ:=Nf S 6 B (B5 Κ 0 o.Χ.am) }:=⟨ho.1,ho.2.1,ah,Q⟩;refine⟨J,λy U=>?_⟩;obtain rfl:=GO U;exact⟨mZ a2 J,(show(3:Int)<5 by decide),(show(5:Int)<=6 by decide),rfl,λq=>iJ q hB.2⟩
   grind
  .obtain⟨to,ht⟩:∃to,to=if cN=2 then o.Χ.fr else o.Χ.to:=⟨_,rfl⟩;rw[ja h0 hB ht];split
   .exact⟨⟨ho.1,ho.2.1,ho.2.2.1,ho.2.2.2⟩,λy U=>by cases U⟩
   grind
 grind [jS]
theorem xG{d r cN Κ B:Int}{c:B4}(A:xs r):∀{os:List hD} {S:Τ},NQ d c (ey S) S->ey S+cl os<=2000->(∀o∈os,QU o)->(∀o∈(cG d r cN Κ B os S).2.1,QU o)/\∀y∈(cG d r cN Κ B os S).1,Ry d 3 y
 | [],S,_,_,_=>⟨λo h=>iJ h aH,λy h=>iJ h aH⟩
 | o::os,S,h,hk,ho=>by
  have e2:∀(a:hD) (l:List hD),cl (a::l)=dU a+cl l:=by grind [cl]
  rw[e2] at hk;have I:=vb (r:=r) (cN:=cN) (Κ:=Κ) (B:=B) (o:=o) h D;have Q:=xD (r:=r) (cN:=cN) (Κ:=Κ) (B:=B) h D A (ho o au);have h3:=xG (cN:=cN) (Κ:=Κ) (B:=B) A (os:=os) I.1 D ah;grind [cG]
def Dz{d to kd Ζ r ai:Int}{yes:Bool}(I:xs Ζ)(Q:xs r)(h3:xs ai)(h4:kd<Ζ)(h5:Ζ<=6):Ry d kd ⟨d,to,D4 Ζ r ai yes⟩:=⟨jt I Q h3,h4,h5,rfl,λ_=>rfl⟩
def rT{d kd:Int}{gs W:List Int}{ct:G4}(h:OL ct)(hk:kd<ct.Ζ)(A:ct.Ζ<=6)(T:ct.Α=[]):∀y∈ck d gs W ct,Ry d kd y:=λy U=>by
 unfold ck at U;obtain⟨g,_,rfl⟩:=H8 U;exact⟨h,hk,A,rfl,λ_=>T⟩
def Cw{d:Int}:∀{k:Int} {ls:List x4},(∀l∈ls,lP l)->0<=k->k+ls.length<=1000000->(B6 d k ls).length<=ls.length/\∀o∈B6 d k ls,QU o
 | _,[],_,_,_=>⟨ax _,λo h=>iJ h aH⟩
 | k,l::ls,h,h0,I=>by
  rw[aL] at I ⊢;have ih:=Cw (d:=d) (k:=k+1) (ls:=ls) (λx M=>h x (az _ M)) D D;unfold B6;split
  .rw[aL];refine⟨D,λo ho=>?_⟩;rcases L7 ho with rfl|ho
   .exact⟨h l au,by unfold xs;dsimp only;omega,aD _,λf hf=>by cases hf⟩
   .exact ih.2 o ho
  .exact⟨D,ih.2⟩
def yR(d:Int):∀(k:Int) (ls:List x4),∀o∈B6 d k ls,o.state=0
 | _,[],o,h=>iJ h aH
 | k,l::ls,o,h=>by
  have ih:=yR d (k+1) ls o;have e1:B6 d k (l::ls)=if l.d=d then⟨l,k,0,[]⟩::B6 d (k+1) ls else B6 d (k+1) ls:=rfl;rw[e1] at h;split at h
  .rcases L7 h with rfl|h
   .rfl
   .exact ih h
  .exact ih h
def QG(υ:B4)(d kd:Int)(b:Nat)(Δ:L6):Prop:=Nn υ d Δ.2.1 Δ.2.2/\ey Δ.2.2+F0 Δ.2.1<=b/\∀y∈Δ.1,Ry d kd y
theorem QG.none{υ:B4}{d kd:Int}{b:Nat}{N:ω}{S:Τ}(h:Nn υ d N S)(hb:ey S+F0 N<=b):QG υ d kd b ([],N,S):=⟨h,hb,λy U=>iJ U aH⟩
theorem Nn.J2{υ:B4}{d:Int}{N:ω}{S:Τ}(h:Nn υ d N S){r:Int}{x:K4}(M:x.lq.length<=100):Nn υ d { N with Ψ:=ez N.Ψ r x } S :=
 ⟨h.J1,h.T,h.nd,λp hp=>by
  rcases jR hp with rfl|hp
  .exact M
  .exact h.Ot p hp,h.pts⟩
theorem Nn.K5{υ:B4}{d:Int}{N:ω}{S S' : Τ}(h:Nn υ d N S)(hS:NQ d υ (ey S') S')(hk:ey S<=ey S'){r:Int}{p:Nl}(hp:UT p):Nn υ d { N with Γ:=ez N.Γ r p } S' :=
 ⟨hS,⟨h.T.1,by have:=h.T.2;grind⟩,iE h.nd,h.Ot,λq hq=>by
  rcases jR hq with rfl|hq
  .exact hp
  .exact h.pts q hq⟩
theorem HL{υ:B4}{d E0 B:Int}{m:G4}{N:ω}{S:Τ}(hN:Nn υ d N S)(hm:OL m){b:Nat}(hb:ey S+F0 N<=b):QG υ d 2 b (eu d E0 m B N S):=by
 unfold eu;cases T:ε N.Ψ m.r with
 | none=>exact QG.none hN hb
 | some x =>
  have M:=hN.Ot _ (bR T);dsimp only;have h3:xs 3:=by unfold xs;omega
  have h0:xs 0:=by unfold xs;omega
  split
  .exact QG.none hN hb
  .split
   .exact⟨hN.J2 M,hb,rT (jt h3 hm.num.2.1 h0) (show(2:Int)<3 by decide) (show(3:Int)<=6 by decide) rfl⟩
   .split
    .exact⟨hN.J2 M,hb,λy U=>ah⟩
    .exact⟨hN.J2 M,hb,rT (jt h3 hm.num.2.1 h0) (show(2:Int)<3 by decide) (show(3:Int)<=6 by decide) rfl⟩
theorem HS{υ:B4}{d E0:Int}{m:G4}{N:ω}{S:Τ}(hN:Nn υ d N S){b:Nat}(hb:ey S+F0 N<=b):QG υ d 4 b (gd E0 m N S):=by
 unfold gd ω.J2;cases T:ε N.Ψ m.r with
 | none=>exact QG.none hN hb
 | some x=>exact⟨hN.J2 (hN.Ot _ (bR T)),hb,λy U=>ah⟩
theorem zD(ai:Int):∀os:List hD,cl (os.map (eY ai))=cl os
 | []=>rfl
 | o::os=>by
  have e2:∀(a:hD) (l:List hD),cl (a::l)=dU a+cl l:=λa l=>by unfold cl;rw[al,aR]
  rw[al,e2,e2,zD ai os];congr 1;unfold eY;split
  .rename_i h;unfold dU;rw[Ο (show ¬(2:Int)=0 by decide),Ο (by rw[h.2];decide)]
  .rfl
theorem KO{υ:B4}{d:Int}{m:G4}{N:ω}{S:Τ}(hN:Nn υ d N S){b:Nat}(hb:ey S+F0 N<=b):QG υ d 6 b (OI m N S):=by
 unfold OI ω.K5;cases T:ε N.Γ m.r with
 | none=>exact QG.none hN hb
 | some p =>
  have hp:=hN.pts _ (bR T);refine⟨hN.K5 hN.J1 D ⟨?_,λo ho=>?_⟩,?_,λy U=>ah⟩
  .rw[ak];exact hp.Α
  .obtain⟨q,hq,rfl⟩:=H8 ho;have A:=hp.ow q hq;unfold eY;split
   .exact⟨A.1,A.2.1,A.2.2.1,A.2.2.2⟩
   omega
  .have I:=rA (q:={ p with Α:=p.Α.map (eY m.ai) }) hN.nd T;grind [zD]
theorem Fc{υ:B4}{d B:Int}{m:G4}{N:ω}{S:Τ}(hN:Nn υ d N S)(hm:OL m){b:Nat}(hb:ey S+F0 N<=b)(a2:b<=2000):QG υ d 3 b (dq d m B N S):=by
 have h4:xs 4:=by unfold xs;omega
 have h0:xs 0:=by unfold xs;omega
 have A:Ry d 3 ⟨d,bX m.r,D4 4 m.r 0 false⟩:=Dz h4 hm.num.2.1 h0 ac ac;unfold dq;cases T:ε N.Γ m.r with
 | none =>
  refine⟨hN.K5 hN.J1 D ⟨aD _,ah⟩,?_,λy U=>?_⟩
  .have I:=oK (q:=⟨3,0,[]⟩) hN.nd T;grind [cl]
  grind
 | some p =>
  have hp:=hN.pts _ (bR T);have J:=lx (bR T);dsimp only at J ⊢;split
  .have I:=rn (d:=d) (r:=m.r) (cN:=if m.yes=true then 1 else 2) (Κ:=p.Κ) (B:=B) (os:=p.Α) hN.J1 D;have Q:=xG (d:=d) (cN:=if m.yes=true then 1 else 2) (Κ:=p.Κ) (B:=B) hm.num.2.1 (os:=p.Α) hN.J1 D hp.ow;have h3:=nB d m.r (if m.yes=true then 1 else 2) p.Κ B p.Α S;refine⟨hN.K5 I.1 vc ⟨?_,Q.1⟩,?_,λy U=>?_⟩
   .show(cG d m.r (if m.yes=true then 1 else 2) p.Κ B p.Α S).2.1.length<=32;rw[h3];exact hp.Α
   .have h5:=rA (q:=⟨if m.yes=true then 1 else 2,p.Κ,(cG d m.r (if m.yes=true then 1 else 2) p.Κ B p.Α S).2.1⟩) hN.nd T;grind
   grind
  .refine⟨hN,hb,λy U=>?_⟩;obtain rfl:=GO U;exact A
theorem Ij{υ:B4}{d B:Int}{m:G4}{N:ω}{S:Τ}(hN:Nn υ d N S)(hm:OL m){b:Nat}(hb:ey S+F0 N+2*Nu m.Α<=b)(a4:b<=2000):QG υ d 1 b (eM d m B N S):=by
 have Q:xs 2:=by unfold xs;omega
 have h0:xs 0:=by unfold xs;omega
 have hv:∀y:Bool,Ry d 1 ⟨d,bX m.r,D4 2 m.r 0 y⟩:=λy=>Dz Q hm.num.2.1 h0 ac ac;have b0:=oM d 0 m.Α;unfold eM;cases T:ε N.Γ m.r with
 | some p =>
  refine⟨hN,by dsimp only;omega,λy U=>?_⟩;obtain rfl:=GO U;exact hv _
 | none =>
  dsimp only;have a3:=hm.Α;have A:=Cw (d:=d) (k:=0) hm.lg D D;have a2:∀o∈B6 d 0 m.Α,o.state=0:=yR d 0 m.Α;have a9:=kJ (268435456+N.T) (B6 d 0 m.Α) a2;split
  .rename_i hg;have a7:=nv hg;have a5:=(tx hg).2.1;have a6:=rG (dx (268435456+N.T) (B6 d 0 m.Α));have hS:NQ d υ (ey (L3 S 2 B (dx (268435456+N.T) (B6 d 0 m.Α)))) (L3 S 2 B (dx (268435456+N.T) (B6 d 0 m.Α))):=UU.post hN.J1 _ (by show ey S+C6 (dx (268435456+N.T) (B6 d 0 m.Α))<=2000;omega);have hP:=hN.K5 (r:=m.r) (p:=⟨0,268435456+N.T,B6 d 0 m.Α⟩) hS D ⟨ah,A.2⟩;have J:=oK (q:=⟨0,268435456+N.T,B6 d 0 m.Α⟩) hN.nd T;refine⟨⟨hP.J1,?_,hP.nd,hP.Ot,hP.pts⟩,?_,λy U=>?_⟩
   .have:=hN.T
    grind
   .grind [F0]
   grind
  .have J:=oK (q:=⟨3,268435456+N.T,[]⟩) hN.nd T;refine⟨hN.K5 hN.J1 D ⟨aD _,ah⟩,?_,λy U=>?_⟩
   .grind [cl]
   grind
theorem FC{υ:B4}{d E0 B:Int}{m:G4}{N:ω}{S:Τ}(hN:Nn υ d N S)(hm:OL m){b:Nat}(hb:ey S+F0 N+2*Nu m.Α<=b)(J:b<=2000):QG υ d 5 b (dS d E0 m B N S):=by
 have h6:xs 6:=by unfold xs;omega
 have hv:Ry d 5 ⟨d,E0,D4 6 m.r m.ai false⟩:=Dz h6 hm.num.2.1 hm.num.2.2 ac ac;unfold dS;split
 .refine⟨hN,by dsimp only;omega,λy U=>?_⟩;obtain rfl:=GO U;exact hv
 .split
  .rename_i Q;have A:m.Α[0]!∈m.Α:=by rw[E7 D];exact ah
   have ha:=vQ A;have a3:=kA (to:=m.Α[0]!.to) Q.2;split
   .rename_i hg;have a2:=nv hg;have hS:NQ d υ (ey (L3 S 5 B (G7 m.Α[0]!.to m.Α[0]!.am m.Μ))) (L3 S 5 B (G7 m.Α[0]!.to m.Α[0]!.am m.Μ)):=UU.post hN.J1 _ (by show ey S+C6 (G7 m.Α[0]!.to m.Α[0]!.am m.Μ)<=2000;omega);refine⟨⟨hS,⟨hN.T.1,by have:=hN.T.2;grind⟩,hN.nd,hN.Ot,hN.pts⟩,?_,λy U=>?_⟩
    .grind [F0]
    grind
   .exact QG.none hN D
  .exact QG.none hN D
theorem th{υ:B4}{d E0 B:Int}{m:G4}{N:ω}{S:Τ}(hN:Nn υ d N S)(hm:OL m){b:Nat}(hb:ey S+F0 N+2*Nu m.Α<=b)(A:b<=2000):QG υ d m.Ζ b (aX d E0 m B N S):=by
 grind [aX,Ij,HL,Fc,HS,FC,KO,QG.none]
