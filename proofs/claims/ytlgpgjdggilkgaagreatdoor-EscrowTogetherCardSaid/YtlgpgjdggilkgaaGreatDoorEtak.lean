/- Lemmas. -/
import Derived.Test.YtlgpgjdggilkgaaGreatDoorEtaj
set_option linter.all false
set_option maxHeartbeats 8000000
namespace Go.Proofs.YtlgpgjdggilkgaaGreatDoor
section
open Go.V
attribute [local irreducible] Α GO GP δ ms Ev Ef C0 F CB GB Enters
structure A8 where
 Λ:Int
 to:Int
 a1:Int
 n:Int
 Β:ο
 deriving Inhabited,DecidableEq
structure J3 where
 m:A8
 pad:OA
 J2:Nat
 deriving Inhabited
def cu(m:J3):τ:=[J m.m.Λ,J m.m.to,J m.m.a1,J m.m.n,ah m.pad m.m.Β.length m.J2]
def mO(t:J3):∀u∈cu t,u.oneCell' = true:=by simp[cu,Value.oneCell']
instance:RN cu:=⟨mO⟩
abbrev Ns(m:J3):HP:=ξ aL 3 m.pad m.m.Β
def ku(m:J3):Om (Ns m):=cQ _ _ _ _
abbrev OY:Nat:=134
def Xv:J3:=⟨⟨0,0,0,0,[]⟩,none,0⟩
def Af{L:Η}(m:J3)(U:m.m.Β.length<=1000000) :
  Τ Θ 192 #[bF (cu m)] (Ns m::L) (λv Γ=>∃m',v=bF (cu m')/\m'.m=m.m/\Γ = Ns m'::Ns m::L):=by
 obtain⟨⟨Λ,to,a1,n,Β⟩,pad,J2⟩:=m;dsimp only at U;refine Τ.bd (args:=[bF (cu ⟨⟨Λ,to,a1,n,Β⟩,pad,J2⟩)]) ?_;refine Nd ?_;intros;refine GO.ca (jx pad Β.length J2 Β rfl D) ?_;rintro _ _⟨M,B,rfl,rfl⟩;refine Nd ?_;intros;refine KX.a8 (by exact C7.cell rfl bh (C7.nil)) ?_ ⟨⟨⟨Λ,to,a1,n,Β⟩,M,B⟩,rfl,rfl,rfl⟩;refine(F.Sf M).trans ?_;exact ak
theorem iP{α:Type}[Inhabited α]{l:List α}{i:Nat}{x:α}(h:i<l.length):(l.set i x).take (i+1)=l.take i++[x]:=by
 grind [aB,List.take_set_of_le]
theorem zX{L:Η}(ad:OA)(c:Nat)(Q:List J3)(U:Q.length<=64)(hp:∀m∈Q,m.m.Β.length<=1000000) :
  Τ Θ 191 #[ah ad Q.length c,.func (.func 192) #[] #[]] (ξ cu 5 ad Q::Ψ Ns Q::L) (λv Γ=>∃a2 c' B,v=ah a2 B.length c'/\B.map (·.m)=Q.map (·.m)/\Γ = ξ cu 5 a2 B::Ψ Ns B::ξ cu 5 ad Q::Ψ Ns Q::L):=by
 refine Τ.bd ?_;by_cases h0:Q.length=0
 .have e:Q=[]:=aj;subst e;refine Nd ?_;intros;exact KX.a8 aF ((F.a8 Ns).trans (F.f5 cu 5 none)) ⟨none,0,[],rfl,rfl,rfl⟩
 refine Nd ?_;intros;refine GO.ef (Ef.j5 cu Xv rfl rfl rfl D D D D) ae ?_;rintro _ _⟨bs,rfl,rfl⟩;rw[show(Q.length:Int).toNat=Q.length by omega];refine Nd ?_;intros
 refine Α.loop (α:=Nat×List J3) (λz=>z.1<=Q.length/\z.2.length=Q.length/\(z.2.take z.1).map (·.m)=(Q.take z.1).map (·.m)) (λz=>[(1,.func (.func 192) #[] #[]),(5,ah (some ⟨bs,0,none⟩) Q.length Q.length),(14,ah ad Q.length c),(15,J (Q.length:Int)),(16,J (z.1:Int))])
  (λz=>Ω cu 5 OY (some ⟨bs,0,none⟩) Q.length z.2::Ψ Ns (z.2.take z.1)::ξ cu 5 ad Q::Ψ Ns Q::L) (λz=>Q.length - z.1) (0,List.replicate Q.length Xv) aj aD ?_ ?_
 .dsimp only;rw[bj];refine(F.a8 Ns).trans ?_;exact ak
 rintro⟨i,zs⟩ ⟨hi,a5,M⟩;dsimp only at hi a5 M ⊢;by_cases a7:i<Q.length
 case neg =>
  have a6:i=Q.length:=D;subst a6;rw[aM D,aM D] at M;rw[aM D];refine Nd ?_;intros;refine KX.a8 aF (F.N9) ⟨some ⟨bs,0,none⟩,Q.length,zs,by rw[a5];rfl,M,rfl⟩
 have a3:(i:Int).toNat=i:=D;have a4:Q[i]!∈Q:=bA a7;refine Nd ?_;intros;rw[a3];refine GO.cL (F.at (Ο:=Ψ Ns Q) (F.d8 (x:=Q[i]!) a4)) ?_;refine GO.ef (Ef.f5 rfl rfl (Af Q[i]! (hp _ a4))) ae ?_;rintro _ _⟨m',rfl,a9,rfl⟩;refine Nd ?_;intros;refine GO.NH (Ef.k7 (e:=m') rfl rfl bh bh (mO _) D) ?_;rintro _ _ rfl;rw[a3];refine Nd ?_;intros;refine⟨(i+1,zs.set i m'),⟨D,aj,?_⟩,D,?_,?_⟩
 .grind [iP,aB]
 .dsimp only;rw[bC i];exact aD
 .dsimp only;rw[iP D];refine F.c7 ?_;refine F.trans (fG:=Ψ Ns (zs.take i)::Ns m'::ξ cu 5 ad Q::Ψ Ns Q::L) ak ?_;exact(F.c7 (F.d7 ku)).trans (F.c9 ku)
structure D6 where
 A:Int
 Δ:Int
 RV:Int
 E:Int
 K9:Int
 OI:Int
 fe:List A8
 deriving Inhabited
structure M0 where
 A:Int
 Δ:Int
 RV:Int
 E:Int
 K9:Int
 OI:Int
 fe:List J3
 fH:OA
 iI:Nat
 deriving Inhabited
def M0.m(s:M0):D6:=⟨s.A,s.Δ,s.RV,s.E,s.K9,s.OI,s.fe.map (·.m)⟩
def eK(s:M0):τ:=[J s.A,J s.Δ,J s.RV,J s.E,J s.K9,J s.OI,ah s.fH s.fe.length s.iI]
def uO(t:M0):∀u∈eK t,u.oneCell' = true:=by simp[eK,Value.oneCell']
abbrev stM(s:M0):HP:=ξ cu 5 s.fH s.fe
abbrev Nu(s:M0):HP:=Ψ Ns s.fe
def Dw(s:M0):Om (stM s):=cQ _ _ _ _
def Ae{L:Η}(s:M0)(U:s.fe.length<=64)(hp:∀m∈s.fe,m.m.Β.length<=1000000) :
  Τ Θ 133 #[bF (eK s)] (stM s::Nu s::L) (λv Γ=>∃s',v=bF (eK s')/\s'.m=s.m/\Γ = stM s'::Nu s'::stM s::Nu s::L):=by
 obtain⟨i0,i1,i2,i3,i4,i5,Q,fH,iI⟩:=s;dsimp only at U hp;refine Τ.bd (args:=[bF (eK ⟨i0,i1,i2,i3,i4,i5,Q,fH,iI⟩)]) ?_;refine Nd ?_;intros;refine GO.cL (F.at (Ο:=ξ cu 5 fH Q) (F.c7 (F.at (Ο:=Ψ Ns Q) (F.refl _)))) ?_;refine GO.ca (zX fH iI Q U hp) ?_;rintro _ _⟨B,c',a2,rfl,M,rfl⟩;refine Nd ?_;intros;refine KX.a8 (by exact C7.cell rfl bh (C7.nil)) ?_ ⟨⟨i0,i1,i2,i3,i4,i5,a2,B,c'⟩,rfl,by simp only[M0.m,M],rfl⟩;exact ak
structure Ru where
 name:ByteArray
 obj:Bool
 mixed:Bool
 Vj:Bool
 Uf:Int
 bind:Int
 level:Int
 deriving Inhabited
def dI(i:Ru):τ:=[.string i.name,.bool i.obj,.bool i.mixed,.bool i.Vj,J i.Uf,J i.bind,J i.level]
def uP(t:Ru):∀u∈dI t,u.oneCell' = true:=by simp[dI,Value.oneCell']
instance:RN dI:=⟨uP⟩
def xg{L:Η}(ad:OA)(n c:Nat)(I:List Ru)[F2 L ad Ru dI 7 I](hn:n=I.length)(hb:n<=1000000) :
  Τ Θ 159 #[ah ad n c] L (λv Γ=>∃M B,v=ah M I.length B/\Γ = Ω dI 7 214 M B I::L):=by
 refine Τ.bd ?_;repeat' first|refine ab ?_|intro _|with_reducible refine CB.dec (λ_=>?_) (λ_=>?_)|with_reducible refine GB.dec (λ_=>?_) (λ_=>?_)|with_reducible refine CB.bool (λ_=>?_) (λ_=>?_)|with_reducible refine GB.bool (λ_=>?_) (λ_=>?_)
 .have h:ad=none:=by assumption
  subst h;refine KX.f8 (.inl rfl) (oO (L:=L) (I:=I)) ?_;intro O;subst O;refine KX.a8 aF (F.c8 dI 7 214) ⟨_,_,rfl,rfl⟩
 .refine GO.cL (F.d9 (Ε:=dI) (sz:=7) (I:=[]) rfl rfl cj cj) ?_;refine GO.ef (Ef.c9 rfl rfl rfl rfl hn (λe _=>uP e) hZ hZ) ae ?_;rintro _ _⟨M,B,rfl,rfl⟩;refine Nd ?_;intros;refine KX.a8 aF (F.refl _) ⟨M,B,rfl,rfl⟩
structure UN where
 name:ByteArray
 spawn:Bool
 level:Int
 time:Int
 Zj:Int
 Zk:Int
 take:List (Int×Int)
 Wr:List (Int×Int)
 back:List (Int×Int)
 deriving Inhabited
def Fd{L:Η}(ad:OA)(c:Nat):Τ Θ 160 #[ah ad 0 c,.func (.func 161) #[] #[]] L (F3 (ah none 0 0) L):=by
 refine Τ.bd ?_;refine Nd ?_;intros;exact KX.en ⟨rfl,rfl⟩
def Fc{L:Η}(ad:OA)(c:Nat):Τ Θ 162 #[ah ad 0 c,.func (.func 163) #[] #[]] L (F3 (ah none 0 0) L):=by
 refine Τ.bd ?_;refine Nd ?_;intros;exact KX.en ⟨rfl,rfl⟩
def Fb{L:Η}(ad:OA)(c:Nat):Τ Θ 164 #[ah ad 0 c,.func (.func 165) #[] #[]] L (F3 (ah none 0 0) L):=by
 refine Τ.bd ?_;refine Nd ?_;intros;exact KX.en ⟨rfl,rfl⟩
structure B0 where
 B5:List Ru
 rules:List UN
structure L1 where
 B5:List Ru
 I2:OA
 J4:Nat
 Oo:OA
 Oq:Nat
 Sg:OA
 Sh:Nat
 SD:OA
 SE:Nat
def L1.m(c:L1):B0:=⟨c.B5,[]⟩
def L1.cells(c:L1):τ:=[ah c.I2 c.B5.length c.J4,ah c.Oo 0 c.Oq,ah c.Sg 0 c.Sh,ah c.SD 0 c.SE]
def Oz(c:L1):HP:=ξ dI 7 c.I2 c.B5
def Mw(c:L1):Om (Oz c):=cQ _ _ _ _
def Ws{c:L1}{L:Η}:F (Oz c::L) (ξ dI 7 c.I2 c.B5::Oz c::L):=F.dup (Mw c).RQ
structure L1.fG (c:L1):Prop where
 B5:c.B5.length<=64
theorem L1.a8{c c' : L1}(h:c'.m=c.m)(hB:c.fG):c'.fG:=⟨by rw[show c'.B5=c.B5 from congrArg B0.B5 h];exact hB.B5⟩
abbrev DK:List K4:=[.ev 0,.ev 1,.ev 3,.ev 4,.ev 6,.ev 7,.ev 9,.ev 10,.ef 2,.ef 5,.ef 8,.ef 11,.ev 12,.ef 13]
def Nn{φ ψ:Prop}(k:ψ)(h:Hid ψ->φ:=by intro k;(repeat (first|refine ab ?_|intro B6|refine Α.dr 16 1 DK ?_));(repeat revert B6);exact Hid.out k):φ:=h ⟨k⟩
def ql{L:Η}(c:L1)(hb:c.fG) :
  Τ Θ 108 #[bF c.cells] (Oz c::L) (λv Γ=>∃c',v=.agg c'.cells.toArray/\c'.m=c.m/\Γ = Oz c'::Oz c::L):=by
 obtain⟨B5,I2,J4,Oo,Oq,Sg,Sh,SD,SE⟩:=c;have a2:=hb.B5;dsimp only at a2;refine Τ.bd (args:=[bF (L1.cells ⟨B5,I2,J4,Oo,Oq,Sg,Sh,SD,SE⟩)]) ?_;refine Α.cL Ws ?_;dsimp only;refine Nn ?_;intros;refine δ.ca (xg I2 B5.length J4 B5 rfl D) ?_;rintro _ _⟨B,M,rfl,rfl⟩;refine Nn ?_;intros;refine δ.cr (Fd Oo Oq) ?_;refine Nn ?_;intros;refine δ.cr (Fc Sg Sh) ?_;refine Nn ?_;intros;refine δ.cr (Fb SD SE) ?_;refine Nn ?_;intros;refine KX.a8 (by exact C7.cell rfl bh (C7.nil)) ?_ ⟨⟨B5,B,M,none,0,none,0,none,0⟩,rfl,rfl,rfl⟩;refine(F.Sf B).trans ?_;refine F.trans (fG:=ξ dI 7 B B5::Oz ⟨B5,I2,J4,Oo,Oq,Sg,Sh,SD,SE⟩::L) ak ?_;exact F.refl _
end
section
open Go.V
abbrev PT:Nat:=135
abbrev OM:Nat:=222
structure lu where
 d:Int
 fr:Int
 ts:Int
 to:Int
 am:List (Int×Int)
 deriving Inhabited,DecidableEq
structure Nl where
 m:lu
 ad:OA
 cap:Nat
 deriving Inhabited
def aZ(l:Nl):τ:=[J l.m.d,J l.m.fr,J l.m.ts,J l.m.to,ah l.ad l.m.am.length l.cap]
def ln(l:Nl):∀u∈aZ l,u.oneCell' = true:=by simp[aZ,Value.oneCell']
instance:RN aZ:=⟨ln⟩
abbrev iJ(l:Nl):HP:=ξ dZ 2 l.ad l.m.am
def fB(l:Nl):Om (iJ l):=cQ _ _ _ _
structure G3 where
 Δ:Int
 A:Int
 ω:Int
 yes:Bool
 Z:List lu
 Κ:List Int
 deriving Inhabited,DecidableEq
structure O6 where
 Δ:Int
 A:Int
 ω:Int
 yes:Bool
 Z:List Nl
 bG:OA
 hx:Nat
 Κ:List Int
 C3:OA
 F1:Nat
def O6.m(c:O6):G3:=⟨c.Δ,c.A,c.ω,c.yes,c.Z.map (·.m),c.Κ⟩
def eV(c:O6):τ:=[J c.Δ,J c.A,J c.ω,.bool c.yes,ah c.bG c.Z.length c.hx,ah c.C3 c.Κ.length c.F1]
def Hn(c:O6):∀u∈eV c,u.oneCell' = true:=by simp[eV,Value.oneCell']
instance:RN eV:=⟨Hn⟩
def M9(c:O6):HP:=SC (ξ aZ 5 c.bG c.Z) (SC (Ψ iJ c.Z) (ξ (dJ .i64) 1 c.C3 c.Κ))
def Ad{c:O6}{L:Η}:F (M9 c::L) (ξ aZ 5 c.bG c.Z::Ψ iJ c.Z::ξ (dJ .i64) 1 c.C3 c.Κ::L):=F.UJ.trans (F.c7 F.UJ)
def MY(c:O6):Om (M9 c):=Om.and (cQ _ _ _ _) (Om.and (fi fB) (cQ _ _ _ _))
def dj(l:lu):List Int:=[l.d,l.fr,l.ts,l.to]++l.am.flatMap λa=>[a.1,a.2]
def NP(l:List Int):List Int:=uv l.length++On l
def Pc(m:G3):List Int:=uv (zz m.Δ)++uv (zz m.A)++uv (zz m.ω)++[if m.yes=true then 1 else 0]++uv (zz m.Z.length)++(m.Z.flatMap λl=>NP (dj l))++NP m.Κ
def lR(l:lu):Prop:=(vi l.d/\vi l.fr/\vi l.ts/\vi l.to)/\l.am.length<=100/\∀a∈l.am,vi a.1/\vi a.2
structure O7 (m:G3):Prop where
 num:vi m.Δ/\vi m.A/\vi m.ω
 Z:m.Z.length<=32
 lg:∀l∈m.Z,lR l
 fl:m.Κ.length<=1000
 fn:∀f∈m.Κ,vi f
def To(l:lu)(j:Nat):List Int:=[l.d,l.fr,l.ts,l.to]++(l.am.take j).flatMap λa=>[a.1,a.2]
theorem KO(l:lu):To l l.am.length=dj l:=by unfold To dj;grind
theorem II(l:lu){j:Nat}(h:j<l.am.length):To l (j+1)=To l j++[l.am[j]!.1,l.am[j]!.2]:=by
 grind [To,aB]
theorem qJ(l:lu):(dj l).length=4+2*l.am.length:=by
 have h:∀a:List (Int×Int),(a.flatMap λa=>[a.1,a.2]).length=2*a.length:=λa=>by
  induction a with
  | nil=>rfl
  | cons x t ih=>grind
 unfold dj;grind
def KN(l:lu){j:Nat}(h:j<=l.am.length):(To l j).length=4+2*j:=by
 have:=qJ ⟨l.d,l.fr,l.ts,l.to,l.am.take j⟩
 rw[aP,dF h] at this;exact this
theorem qK{l:lu}(h:lR l):∀x∈dj l,vi x:=λx O=>by
 obtain⟨⟨K,T,h3,h4⟩,_,h5⟩:=h;rcases J8 O with q|q
 .grind
 grind
theorem CK{l:List Int}(h:∀x∈l,vi x)(U:l.length<=1000000):(NP l).length<=10+10*l.length:=by
 grind [mX,gT,NP]
def nV:∀{ls:List lu},(∀l∈ls,lR l)->(ls.flatMap λl=>NP (dj l)).length<=2050*ls.length
 | [],_=>an _
 | l::ls,h=>by
  have K:=nV (ls:=ls) (λx O=>h x (az _ O));have T:=h l aA;have h3:=qJ l;have h4:=CK (qK T) (by have:=T.2.1;omega);have h5:=T.2.1;rw[aT,ay,aK];omega
attribute [local irreducible] Α GO GP δ ms GF GE Ev Ef C0 F CB GB V.Enters
theorem BU{L:Η}(c:O6)(hc:O7 c.m) :
  Τ Θ 204 #[bF (eV c)] (M9 c::L) (λv Γ=>∃ad cap,v=ah ad (Pc c.m).length cap/\Γ = Ω (dJ .u8) 1 5 ad cap (Pc c.m)::M9 c::L):=by
 obtain⟨⟨k1,k2,k3⟩,U,c3,a4,b0⟩:=hc;have c4:c.Z.length<=32:=by have:c.m.Z.length=c.Z.length:=al _;omega
 have a4:c.Κ.length<=1000:=a4;have u1:=gT (kR k1.1 k1.2);have u2:=gT (kR k2.1 k2.2);have u3:=gT (kR k3.1 k3.2);have k5:vi (c.Z.length:Int):=by unfold vi;omega
 have u5:=gT (kR k5.1 k5.2);refine Τ.bd ?_;refine Α.cL ((F.dup (MY c).RQ).trans Ad) ?_;simp only[eV];refine Nd ?_;intros;rename_i bc bw;refine GO.cL (F.trans (fG:=RT bw [] ⟨none,0,0⟩ (obj bc OM (eV c)::ξ aZ 5 c.bG c.Z::Ψ iJ c.Z::ξ (dJ .i64) 1 c.C3 c.Κ::M9 c::L)) ((F.c8 (dJ .u8) 1 5).trans (by simp only[RT,bu,eV];exact ak)) (oF ⟨none,0,0⟩)) ?_;refine GO.ca (lU bw [] c.Δ k1.1 k1.2 (aC _)) ?_;rintro _ _ rfl;rw[ax];simp only[eV];refine Nd ?_;intros;refine GO.ca (lU bw (uv (zz c.Δ)) c.A k2.1 k2.2 (aO u1 ae)) ?_;rintro _ _ rfl;refine Nd ?_;intros;have x2:(uv (zz c.Δ)++uv (zz c.A)).length<=20:=by rw[ay];exact cH u1 u2
 refine GO.ca (lU bw (uv (zz c.Δ)++uv (zz c.A)) c.ω k3.1 k3.2 D) ?_;rintro _ _ rfl;refine Nd ?_;intros;have x3:(uv (zz c.Δ)++uv (zz c.A)++uv (zz c.ω)).length<=30:=by rw[ay];exact cH x2 u3
 generalize Zl:uv (zz c.Δ)++uv (zz c.A)++uv (zz c.ω)=X3 at *;refine GO.ca (Dl bw X3 c.yes D) ?_;rintro _ _ rfl;refine Nd ?_;intros;have x4:(X3++[if c.yes=true then 1 else 0]).length<=31:=by rw[ay];exact cH x3 (an 1)
 generalize Zm:X3++[if c.yes=true then 1 else 0]=X4 at *;refine GO.ca (lU bw X4 (c.Z.length:Int) k5.1 k5.2 D) ?_;rintro _ _ rfl;refine Nd ?_;intros;have x5:(X4++uv (zz c.Z.length)).length<=41:=by rw[ay];exact D
 generalize Zn:X4++uv (zz (c.Z.length:Int))=X5 at *;have c5:c.m.Z=c.Z.map (·.m):=rfl;refine Α.loop (α:=Nat) (λi=>i<=c.Z.length) (λi=>[(1,av bc),(3,av bw),(33,ah c.bG c.Z.length c.hx),(34,J (c.Z.length:Int)),(35,J (i:Int))]) (λi=>QF bw (X5++(c.m.Z.take i).flatMap λl=>NP (dj l))::obj bc OM [J c.Δ,J c.A,J c.ω,.bool c.yes,ah c.bG c.Z.length c.hx,ah c.C3 c.Κ.length c.F1]::ξ aZ 5 c.bG c.Z::Ψ iJ c.Z::ξ (dJ .i64) 1 c.C3 c.Κ::M9 c::L) (λi=>c.Z.length - i) 0 D aD (by rw[bj,cY,aI];exact F.refl _) ?_;intro i hi;have M:=nV (ls:=c.m.Z.take i) aj;rw[aP] at M;by_cases b7:i<c.Z.length
 case neg =>
  rw[aM aj] at M ⊢
  have hW:X5++(c.m.Z.flatMap λl=>NP (dj l))++uv c.Κ.length++On c.Κ=Pc c.m:=by
   rw[<-Zn,<-Zm,<-Zl];unfold Pc;rw[show c.m.Z.length=c.Z.length by grind];simp only[NP,aH];rfl
  have B:∀f∈c.Κ,vi f:=b0;have b8:c.m.Z.length<=32:=U
  have a9:(X5++(c.m.Z.flatMap λl=>NP (dj l))).length<=41+65600:=by
   rw[ay];have:min i c.m.Z.length<=c.m.Z.length:=D;omega
  have c2:(Pc c.m).length<=1000000:=by
   have K:=mX B;have T:=gT (n:=c.Κ.length) D;rw[<-hW,ay,ay];omega
  refine Nd ?_;intros;refine GO.ca (tT bw (X5++(c.m.Z.flatMap λl=>NP (dj l))) c.C3 c.Κ.length c.F1 c.Κ rfl B D) ?_;rintro _ _ rfl;rw[hW];refine Nd ?_;intros;refine GO.ca (Dk bw (Pc c.m) D) ?_;rintro _ _⟨ad,cap,rfl,_,rfl⟩;refine Nd ?_;intros;exact KX.en ⟨ad,cap,rfl,rfl⟩
 have b1:(i:Int).toNat=i:=D;have a3:=bA b7;have a6:c.m.Z[i]! = c.Z[i]!.m:=aj;have c1:lR c.Z[i]!.m:=aj;obtain⟨⟨g1,g2,g3,g4⟩,g5,g6⟩:=c1;refine Α.cL (F.at (Ο:=Ψ iJ c.Z) (F.d8 (f:=iJ) a3)) ?_;obtain⟨l,a5⟩:∃l,c.Z[i]! = l:=⟨_,rfl⟩;have b6:c.Z[(i:Int).toNat]! = l:=by rw[b1];exact a5
 rw[a5] at g1 g2 g3 g4 g5 g6 a6 ⊢;refine Nd ?_;intros;rw[b6];rename_i bl bn;refine Α.loop (α:=Nat×OA×Nat) (λg=>g.1<=l.m.am.length) (λg=>[(1,av bc),(3,av bw),(33,ah c.bG c.Z.length c.hx),(34,J (c.Z.length:Int)),(35,J (i:Int)),(6,ah g.2.1 (To l.m g.1).length g.2.2),(49,ah l.ad l.m.am.length l.cap),(50,J (l.m.am.length:Int)),(51,J (g.1:Int))]) (λg=>Ω (dJ .i64) 1 B7 g.2.1 g.2.2 (To l.m g.1)::iJ l::Ψ iJ c.Z::QF bw (X5++(c.m.Z.take i).flatMap λl=>NP (dj l))::obj bc OM [J c.Δ,J c.A,J c.ω,.bool c.yes,ah c.bG c.Z.length c.hx,ah c.C3 c.Κ.length c.F1]::ξ aZ 5 c.bG c.Z::ξ (dJ .i64) 1 c.C3 c.Κ::M9 c::L) (λg=>l.m.am.length - g.1) (0,some ⟨bn,0,none⟩,4) D aD ?_ ?_
 .refine(F.d9 (Ε:=dJ .i64) (sz:=1) (I:=To l.m 0) (n:=4) rfl rfl (λ_ _=>rfl) ae).trans ?_;exact ak
 rintro⟨j,I3,No⟩ hj;dsimp only at hj ⊢;have c0:=KN l.m hj;by_cases b5:j<l.m.am.length
 case neg =>
  have b3:j=l.m.am.length:=D;subst b3;rw[KO] at c0 ⊢;have b9:∀x∈dj l.m,vi x:=qK aj
  have a9:(X5++((c.m.Z.take i).flatMap λl=>NP (dj l))).length<=41+65600:=by
   rw[ay];have:min i c.m.Z.length<=c.m.Z.length:=D;omega
  refine Nd ?_;intros;refine GO.cL (Γ:=QF bw (X5++(c.m.Z.take i).flatMap λl=>NP (dj l))::Ω (dJ .i64) 1 B7 I3 No (dj l.m)::iJ l::Ψ iJ c.Z::obj bc OM [J c.Δ,J c.A,J c.ω,.bool c.yes,ah c.bG c.Z.length c.hx,ah c.C3 c.Κ.length c.F1]::ξ aZ 5 c.bG c.Z::ξ (dJ .i64) 1 c.C3 c.Κ::M9 c::L) ak ?_;refine GO.ca (tT bw (X5++(c.m.Z.take i).flatMap λl=>NP (dj l)) I3 (dj l.m).length No (dj l.m) rfl b9 D) ?_;rintro _ _ rfl;refine Nd ?_;intros;refine⟨i+1,D,D,?_,?_⟩
  .rw[bC i];exact aD
  .rw[aB aj,dL,<-D7 aj,a6,aT,cY,aI,<-aH X5];refine F.trans (fG:=QF bw (X5++((c.m.Z.take i).flatMap λl=>NP (dj l))++uv (dj l.m).length++On (dj l.m))::obj bc OM [J c.Δ,J c.A,J c.ω,.bool c.yes,ah c.bG c.Z.length c.hx,ah c.C3 c.Κ.length c.F1]::ξ aZ 5 c.bG c.Z::Ψ iJ c.Z::ξ (dJ .i64) 1 c.C3 c.Κ::M9 c::L) ak ?_;rw[show X5++((c.m.Z.take i).flatMap λl=>NP (dj l))++uv (dj l.m).length++On (dj l.m)=X5++((c.m.Z.take i).flatMap λl=>NP (dj l))++NP (dj l.m) by simp only[NP,aH]];exact F.refl _
 have b4:(j:Int).toNat=j:=D;refine Nd ?_;intros;rename_i ba b2;rw[b4];refine GO.cL ((F.d9 (Ε:=dJ .i64) (sz:=1) (I:=[l.m.am[j]!.1,l.m.am[j]!.2]) (n:=2) rfl rfl (λ_ _=>rfl) ae).trans (F.N9.trans ak)) ?_;refine GO.ef (Ef.c9 (ys:=[l.m.am[j]!.1,l.m.am[j]!.2]) rfl rfl rfl rfl rfl (λe _=>io _ e) hZ hZ) ae ?_;rintro _ _⟨a7,a2,rfl,rfl⟩;rw[<-II l.m b5];refine Nd ?_;intros;refine⟨(j+1,a7,a2),by dsimp only;omega,D,?_,by exact ak⟩;dsimp only;rw[bC j];exact aD
end
section
open Go.V
theorem LI(n:Nat):1<=(uv n).length:=by
 grind [nh,qr]
def GM:∀l:List Int,l.length<=(On l).length
 | []=>an _
 | n::l=>by
  have K:=GM l;have T:=LI (zz n);show l.length+1<=(uv (zz n)++On l).length;rw[ay];omega
theorem sZ(l:List Int):iA (On l):=λx O=>by
 obtain⟨n,_,h⟩:=List.mem_flatMap.1 O;exact ly _ x h
def IW(n:Int)(l:List Int):On (n::l)=uv (zz n)++On l:=rfl
theorem kP{a b:List Int}(ha:iA a)(hb:iA b):iA (a++b):=aj
attribute [local irreducible] Α GO GP δ ms GF GE Ev Ef C0 F CB GB V.Enters
theorem DE{L:Η}(b:Nat)(ys t:List Int)(Y:∀y∈ys,vi y)(ht:iA t)(hm:ys.length<=100000)(U:t.length<=10000000) :
  Τ Θ 283 #[av b,.func (.func 198) #[av b] #[]] (OH b (uv ys.length++(On ys++t)) 0::L)
   (λv Γ=>∃ad cap,v=ah ad ys.length cap/\Γ = Ω (dJ .i64) 1 3 ad cap ys::OH b t 0::L):=by
 have a9:=GM ys;have b1:=mX Y;refine Τ.bd ?_;refine Nd ?_;intros;refine GO.cr (uh b (uv ys.length++(On ys++t)) 0 (by grind [ly,sZ])) ?_;rw[yh D];dsimp only;have a3:ys.length<=(On ys++t).length/\(On ys++t).length<=20000000:=by rw[ay];omega
 obtain⟨a3,b3⟩:=a3;refine GO.c8 (f:=λx=>Tm b (On ys++t) 0 x []) ?_;intro x;simp only[au,ax];refine GO.d7 ?_;intro a2;refine Nd ?_;intros;refine GO.ef (Ef.m5 (dJ .i64) rfl rfl D D D) ae ?_;rintro _ _⟨mb,rfl,rfl⟩;refine Nd ?_;intros;refine Α.loop (α:=Nat×SQ) (λg=>g.1<=ys.length) (λg=>[(0,av b),(1,.func (.func 198) #[av b] #[]),(6,ah g.2.ad (ys.take g.1).length g.2.cap),(29,J (ys.length:Int)),(30,J (g.1:Int))]) (λg=>Ω (dJ .i64) 1 3 g.2.ad g.2.cap (ys.take g.1)::OH b (On (ys.drop g.1)++t) 0::L) (λg=>ys.length - g.1) (0,⟨some ⟨mb,0,none⟩,0,(ys.length:Int).toNat⟩) D aD (F.c7 (gz x a2)) ?_;rintro⟨i,y⟩ hi;dsimp only at hi ⊢;have b4:(ys.take i).length=i:=by rw[aP];omega
 by_cases hin:i<ys.length
 case neg =>
  have b0:i=ys.length:=D;rw[aM D,bU D];refine Nd ?_;intros;exact KX.en ⟨y.ad,y.cap,rfl,rfl⟩
 have a6:ys.drop i=ys[i]!::ys.drop (i+1):=ke hin;have a7:=Y _ (bA hin);have a5:iA (On (ys.drop (i+1))++t):=kP (sZ _) ht
 have b2:(On (ys.drop (i+1))++t).length<=20000000:=by
  have K:=mX (l:=ys.drop (i+1)) aj;rw[cB] at K;rw[ay];omega
 rw[a6,IW,aH];refine Nd ?_;intros;refine GO.ef (Ef.l7 (vs:=[]) (first:=[av b]) (cap:=[]) (kX (L:=[]) b ys[i]! (On (ys.drop (i+1))++t) a7 a5) rfl rfl (F.perm (List.Perm.swap _ _ _))) ae ?_;rintro _ _⟨_,⟨rfl,rfl⟩,hL⟩;simp only[au,ax] at hL;subst hL;refine Nd ?_;intros;refine GO.ef (Ef.a8 (e:=ys[i]!) rfl rfl rfl rfl rfl bh (io _ _) D D) ae ?_;rintro _ _⟨a4,M,rfl,rfl⟩;rw[D7 hin,<-aB hin];refine Nd ?_;intros;refine GO.cL (F.at (Ο:=OH b (On (ys.drop (i+1))++t) 0) (F.refl _)) ?_;refine GO.c8 (f:=λx=>Tm b (On (ys.drop (i+1))++t) 0 x []) ?_;intro x2;simp only[au,ax];refine GO.d7 ?_;intro B;refine Nd ?_;intros;refine⟨(i+1,⟨a4,0,M⟩),D,D,?_,?_⟩
 .dsimp only;rw[show(((i+1:Nat)):Int)=(i:Int)+1 by omega];exact aD
 .dsimp only;refine(gz x2 B).trans ?_;exact ak
def ui{L:Η}(b:Nat)(ys t:List Int)(Y:∀y∈ys,vi y)(ht:iA t)(hm:ys.length<=100000)(U:t.length<=10000000) :
  Τ Θ 200 #[av b] (OH b (uv ys.length++(On ys++t)) 0::L)
   (λv Γ=>∃ad cap,v=ah ad ys.length cap/\Γ = Ω (dJ .i64) 1 3 ad cap ys::OH b t 0::L):=by
 refine Τ.bd ?_;refine Nd ?_;intros;refine GO.ca (DE b ys t Y ht hm U) ?_;rintro _ _⟨ad,cap,rfl,rfl⟩;refine Nd ?_;intros;exact KX.en ⟨ad,cap,rfl,rfl⟩
end
section
open Go.V
def zr(l:List Int):iA (NP l):=kP (ly _) (sZ _)
def EO(ls:List lu):iA (ls.flatMap λl=>NP (dj l)):=λx O=>by
 obtain⟨l,_,h⟩:=List.mem_flatMap.1 O;exact zr _ x h
theorem HB(m:G3):Pc m=uv (zz m.Δ)++(uv (zz m.A)++(uv (zz m.ω)++((if m.yes=true then 1 else 0)::(uv (zz m.Z.length)++((m.Z.flatMap λl=>NP (dj l))++NP m.Κ))))):=by
 grind [Pc]
theorem Hh{am:List (Int×Int)}:∀{j:Nat},j<am.length->(am.flatMap λa=>[a.1,a.2])[2*j]! = am[j]!.1/\(am.flatMap λa=>[a.1,a.2])[2*j+1]! = am[j]!.2:=by
 induction am with
 | nil=>grind
 | cons a t ih =>
  intro j h;rw[aT];cases j with
  | zero=>grind
  | succ j =>
   grind
theorem GD{l:lu}{j:Nat}(h:j<l.am.length):(dj l)[4+2*j]! = l.am[j]!.1/\(dj l)[4+2*j+1]! = l.am[j]!.2:=by
 have:=Hh h
 grind [dj]
attribute [local irreducible] Α GO GP δ ms GF GE Ev Ef C0 F CB GB V.Enters
abbrev yG:=Zd [.ef 13,.ef 14]
abbrev yF:=Zc [.ev 10,.ev 11,.ef 12,.ef 13,.ev 14,.ef 15]
abbrev yE:List K4:=[.ev 0,.ev 1,.ef 2,.ev 3,.ef 4,.ev 5]
def Nt{φ ψ:Prop}(k:ψ)(h:Hid ψ->φ:=by intro k;(repeat (first|refine ab ?_|intro B6|refine Α.dr 93 11 yG ?_|refine Α.dr 93 15 yF ?_|refine Α.dr 93 19 yE ?_));(repeat revert B6);exact Hid.out k):φ:=h ⟨k⟩
theorem BY{L:Η}(ad:OA)(n c:Nat)(m:G3)(hm:O7 m)[hrd:F2 L ad Int (dJ .u8) 1 (Pc m)](hn:n=(Pc m).length) :
  Τ Θ 143 #[ah ad n c] L (λv Γ=>∃c',v=.tuple #[bF (eV c'),.bool true]/\c'.m=m/\Γ = M9 c'::L):=by
 subst hn;obtain⟨⟨k1,k2,k3⟩,U,b7,d2,b6⟩:=hm;have k5:vi (m.Z.length:Int):=by unfold vi;omega
 have u1:=gT (kR k1.1 k1.2);have u2:=gT (kR k2.1 k2.2);have u3:=gT (kR k3.1 k3.2);have u5:=gT (kR k5.1 k5.2);have hL:=nV b7;have hF:=CK b6 D
 have d1:(Pc m).length<=1000000:=by
  rw[HB];simp only[ay,aK];omega
 have b0:=zr m.Κ;have b1:=kP (EO m.Z) b0;have b2:=kP (ly (zz m.Z.length)) b1;have b3:iA ((if m.yes=true then 1 else 0)::(uv (zz m.Z.length)++((m.Z.flatMap λl=>NP (dj l))++NP m.Κ))):=aj;have b4:=kP (ly (zz m.ω)) b3;have b5:=kP (ly (zz m.A)) b4;refine Τ.bd ?_;refine Nt ?_;intros;refine GO.ca (FR ad (Pc m).length c (Pc m) rfl D) ?_;rintro _ _⟨br,rfl,rfl⟩;rw[HB];refine Nt ?_;intros;refine GO.cr (kX br m.Δ _ k1 b5) ?_;refine Nt ?_;intros;refine GO.cr (kX br m.A _ k2 b4) ?_;refine Nt ?_;intros;refine GO.cr (kX br m.ω _ k3 b3) ?_;refine Nt ?_;intros;refine GO.cr (AL br m.yes _) ?_;refine Nt ?_;intros;rename_i a2 bc;refine GO.cL (F.at (Ο:=OH br (uv (zz m.Z.length)++((m.Z.flatMap λl=>NP (dj l))++NP m.Κ)) 0) (F.refl _)) ?_;refine GO.cr (kX br (m.Z.length:Int) _ k5 b1) ?_;refine Nt ?_;intros;refine Α.loop (α:=Nat×List Nl×OA×Nat) (λg=>g.1<=m.Z.length/\g.2.1.map (·.m)=m.Z.take g.1) (λg=>[(2,av a2),(4,av br),(5,av bc),(6,J (m.Z.length:Int)),(30,J (m.Z.length:Int)),(31,J (g.1:Int))]) (λg=>OH br ((m.Z.drop g.1).flatMap (λl=>NP (dj l))++NP m.Κ) 0::obj bc OM [J m.Δ,J m.A,J m.ω,.bool m.yes,ah g.2.2.1 g.2.1.length g.2.2.2,ah none 0 0]::Ω aZ 5 PT g.2.2.1 g.2.2.2 g.2.1::Ψ iJ g.2.1::obj a2 OM [J 0,J 0,J 0,.bool false,ah none 0 0,ah none 0 0]::L) (λg=>m.Z.length - g.1) (0,[],none,0) aj aD ?_ ?_
 .dsimp only;rw[List.drop_zero,bu];refine(F.c8 aZ 5 PT).trans ((F.a8 iJ).trans ?_);exact ak
 rintro⟨i,vs,bG,hx⟩ ⟨hi,a5⟩;dsimp only at hi a5 ⊢
 have d3:vs.length=i:=by
  have:=congrArg List.length a5
  rw[al,aP] at this;omega
 by_cases b9:i<m.Z.length
 case neg =>
  rw[aM D] at a5;rw[bU D,cY,ax];refine Nt ?_;intros;refine GO.cL (Γ:=OH br (uv m.Κ.length++(On m.Κ++[])) 0::(obj bc OM [J m.Δ,J m.A,J m.ω,.bool m.yes,ah bG vs.length hx,ah none 0 0]::Ω aZ 5 PT bG hx vs::Ψ iJ vs::obj a2 OM [J 0,J 0,J 0,.bool false,ah none 0 0,ah none 0 0]::L)) (by rw[aI];show F (OH br (NP m.Κ) 0::_) (OH br (NP m.Κ) 0::_);exact ak) ?_;refine GO.ca (ui br m.Κ [] b6 (λ_ h=>hD h aG) D (aC _)) ?_;rintro _ _⟨C3,F1,rfl,rfl⟩;refine Nt ?_;intros;refine δ.cL (Γ:=OH br [] 0::(obj bc OM [J m.Δ,J m.A,J m.ω,.bool m.yes,ah bG vs.length hx,ah C3 m.Κ.length F1]::Ω (dJ .i64) 1 B7 C3 F1 m.Κ::Ω aZ 5 PT bG hx vs::Ψ iJ vs::obj a2 OM [J 0,J 0,J 0,.bool false,ah none 0 0,ah none 0 0]::L)) ak ?_;refine δ.cr (FU br [] 0) ?_;rw[Ν cj,Χ rfl];refine Nt ?_;intros;refine KX.a8 (by exact C7.cell rfl bh (C7.tmp rfl (C7.nil))) ?_ ⟨⟨m.Δ,m.A,m.ω,m.yes,vs,bG,hx,m.Κ,C3,F1⟩,by rw[bN rfl];rfl,by unfold O6.m;dsimp only;rw[a5],rfl⟩;refine(F.at (Ο:=Ω aZ 5 PT bG hx vs) F.N9).trans ?_;refine(F.at (Ο:=Ω (dJ .i64) 1 B7 C3 F1 m.Κ) F.N9).trans ?_;refine F.trans (fG:=Ψ iJ vs::ξ (dJ .i64) 1 C3 m.Κ::ξ aZ 5 bG vs::L) ak ?_;exact(F.f9 (fi fB) (cQ _ _ _ _)).trans (F.swap.trans (F.f9 (cQ _ _ _ _) (Om.and (fi fB) (cQ _ _ _ _))))
 have c6:=bA b9;have a9:=b7 _ c6;have c3:iA ((m.Z.drop (i+1)).flatMap (λl=>NP (dj l))++NP m.Κ):=aj;have a7:=nV (ls:=m.Z.drop (i+1)) aj;rw[cB] at a7;have c0:=qJ m.Z[i]!;have hI:=qK a9;have c1:=a9.2.1;rw[ke b9,aT,aH,show NP (dj m.Z[i]!)=uv (dj m.Z[i]!).length++On (dj m.Z[i]!) from rfl,aH];refine Nt ?_;intros;refine GO.ca (ui br (dj m.Z[i]!) _ hI c3 D aj) ?_;rintro _ _⟨I3,No,rfl,rfl⟩;obtain⟨l,c5⟩:∃l,m.Z[i]! = l:=⟨_,rfl⟩;rw[c5] at c0 hI c1 a9 ⊢;refine Nt ?_;intros;rename_i b8;have e0:(dj l)[Int.toNat 0]! = l.d:=rfl;have e1:(dj l)[Int.toNat 1]! = l.fr:=rfl;have e2:(dj l)[Int.toNat 2]! = l.ts:=rfl;have e3:(dj l)[Int.toNat 3]! = l.to:=rfl;simp only[e0,e1,e2,e3];refine Α.loop (α:=Nat×OA×Nat) (λg=>g.1<=l.am.length) (λg=>[(2,av a2),(4,av br),(5,av bc),(6,J (m.Z.length:Int)),(30,J (m.Z.length:Int)),(31,J (i:Int)),(7,ah I3 (dj l).length No),(8,av b8),(9,J (4+2*(g.1:Int)))]) (λg=>obj b8 PT [J l.d,J l.fr,J l.ts,J l.to,ah g.2.1 (l.am.take g.1).length g.2.2]::Ω dZ 2 Qc g.2.1 g.2.2 (l.am.take g.1)::Ω (dJ .i64) 1 B7 I3 No (dj l)::OH br ((m.Z.drop (i+1)).flatMap (λl=>NP (dj l))++NP m.Κ) 0::obj bc OM [J m.Δ,J m.A,J m.ω,.bool m.yes,ah bG vs.length hx,ah none 0 0]::Ω aZ 5 PT bG hx vs::Ψ iJ vs::obj a2 OM [J 0,J 0,J 0,.bool false,ah none 0 0,ah none 0 0]::L) (λg=>l.am.length - g.1) (0,none,0) D aD ?_ ?_
 .dsimp only;rw[bj,bu];refine(F.c8 dZ 2 Qc).trans ?_;exact ak
 rintro⟨j,a3,B⟩ hj;dsimp only at hj ⊢;have d0:(l.am.take j).length=j:=by rw[aP];omega
 by_cases a6:j<l.am.length
 case neg =>
  have c4:j=l.am.length:=D;subst c4;rw[cz] at d0 ⊢;refine Nt ?_;intros;refine GO.ef (Ef.a8 (Ε:=aZ) (e:=(⟨l,a3,B⟩:Nl)) rfl rfl rfl rfl rfl bh (ln _) D D) ae ?_;rintro _ _⟨a4,M,rfl,rfl⟩;refine Nt ?_;intros;refine⟨(i+1,vs++[⟨l,a3,B⟩],a4,M),⟨D,by grind [aB]⟩,D,?_,?_⟩
  .dsimp only;rw[bC i];exact aD
  .dsimp only;refine(F.at (Ο:=Ω dZ 2 Qc a3 B l.am) F.N9).trans ?_;refine F.trans (fG:=iJ ⟨l,a3,B⟩::Ψ iJ vs::Ω aZ 5 PT a4 M (vs++[⟨l,a3,B⟩])::OH br ((m.Z.drop (i+1)).flatMap (λl=>NP (dj l))++NP m.Κ) 0::obj bc OM [J m.Δ,J m.A,J m.ω,.bool m.yes,ah a4 (vs++[(⟨l,a3,B⟩:Nl)]).length M,ah none 0 0]::obj a2 OM [J 0,J 0,J 0,.bool false,ah none 0 0,ah none 0 0]::L) ak ?_;exact(F.d7 (f:=iJ) fB).trans (F.swap.trans ((F.c9 (f:=iJ) fB).trans ak))
 obtain⟨q1,q2⟩:=GD a6;have i1:(4+2*(j:Int)).toNat=4+2*j:=D;have i2:(4+2*(j:Int)+1).toNat=4+2*j+1:=D;have c2:l.am.take (j+1)=l.am.take j++[((dj l)[(4+2*(j:Int)).toNat]!,(dj l)[(4+2*(j:Int)+1).toNat]!)]:=by rw[i1,i2,q1,q2,aB a6,D7 a6]
 refine Nt ?_;intros;refine δ.ef (Ef.a8 (Ε:=dZ) (e:=((dj l)[(4+2*(j:Int)).toNat]!,(dj l)[(4+2*(j:Int)+1).toNat]!)) rfl rfl rfl rfl rfl bh (mg _) D D) ae ?_;rintro _ _⟨a4,M,rfl,rfl⟩;rw[<-c2];refine Nt ?_;intros;refine⟨(j+1,a4,M),by dsimp only;omega,D,?_,by exact ak⟩;dsimp only;rw[show(4+2*((j+1:Nat):Int))=4+2*(j:Int)+2 by omega];exact aD
