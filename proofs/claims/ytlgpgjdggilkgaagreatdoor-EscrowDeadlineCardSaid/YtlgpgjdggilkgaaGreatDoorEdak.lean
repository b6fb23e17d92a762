/- Lemmas. -/
import Derived.Test.YtlgpgjdggilkgaaGreatDoorEdaj
set_option linter.all false
set_option maxHeartbeats 8000000
namespace Go.Proofs.YtlgpgjdggilkgaaGreatDoor
section
open Go.V
attribute [local irreducible] Β Y GP δ vi Z Ef C0 E CB GB Enters
structure B1 where
 Ν:Int
 to:Int
 a1:Int
 n:Int
 Γ:π
 deriving Inhabited,DecidableEq
structure J5 where
 m:B1
 pad:OA
 J3:Nat
 deriving Inhabited
def cq(m:J5):χ:=[K m.m.Ν,K m.m.to,K m.m.a1,K m.m.n,ae m.pad m.m.Γ.length m.J3]
def mN(t:J5):∀u∈cq t,u.oneCell' = true:=by simp[cq,Value.oneCell']
instance:Rl cq:=⟨mN⟩
abbrev Na(m:J5):HP:=τ aK 3 m.pad m.m.Γ
def kq(m:J5):Og (Na m):=cT _ _ _ _
abbrev OC:Nat:=134
def Xd:J5:=⟨⟨0,0,0,0,[]⟩,none,0⟩
def Ad{L:Ι}(m:J5)(T:m.m.Γ.length<=1000000) :
  Υ Λ 192 #[bC (cq m)] (Na m::L) (λv Ε=>∃m',v=bC (cq m')/\m'.m=m.m/\Ε = Na m'::Na m::L):=by
 obtain⟨⟨Ν,to,a1,n,Γ⟩,pad,J3⟩:=m;dsimp only at T;refine Υ.bd (args:=[bC (cq ⟨⟨Ν,to,a1,n,Γ⟩,pad,J3⟩)]) ?_;refine ML ?_;intros;refine Y.ca (ju pad Γ.length J3 Γ rfl D) ?_;rintro _ _⟨J,A,rfl,rfl⟩;refine ML ?_;intros;refine KX.a8 (by exact C9.cell rfl aY (C9.nil)) ?_ ⟨⟨⟨Ν,to,a1,n,Γ⟩,J,A⟩,rfl,rfl,rfl⟩;refine(E.RI J).trans ?_;exact aj
theorem iO{α:Type}[Inhabited α]{l:List α}{i:Nat}{x:α}(h:i<l.length):(l.set i x).take (i+1)=l.take i++[x]:=by
 grind [aB,List.take_set_of_le]
theorem zV{L:Ι}(ad:OA)(c:Nat)(O:List J5)(T:O.length<=64)(hp:∀m∈O,m.m.Γ.length<=1000000) :
  Υ Λ 191 #[ae ad O.length c,.func (.func 192) #[] #[]] (τ cq 5 ad O::η Na O::L) (λv Ε=>∃a2 c' A,v=ae a2 A.length c'/\A.map (·.m)=O.map (·.m)/\Ε = τ cq 5 a2 A::η Na A::τ cq 5 ad O::η Na O::L):=by
 refine Υ.bd ?_;by_cases h0:O.length=0
 .have e:O=[]:=ah;subst e;refine ML ?_;intros;exact KX.a8 aC ((E.c7 Na).trans (E.f7 cq 5 none)) ⟨none,0,[],rfl,rfl,rfl⟩
 refine ML ?_;intros;refine Y.ef (Ef.j7 cq Xd rfl rfl rfl D D D D) ac ?_;rintro _ _⟨bs,rfl,rfl⟩;rw[show(O.length:Int).toNat=O.length by omega];refine ML ?_;intros
 refine Β.loop (α:=Nat×List J5) (λz=>z.1<=O.length/\z.2.length=O.length/\(z.2.take z.1).map (·.m)=(O.take z.1).map (·.m)) (λz=>[(1,.func (.func 192) #[] #[]),(5,ae (some ⟨bs,0,none⟩) O.length O.length),(14,ae ad O.length c),(15,K (O.length:Int)),(16,K (z.1:Int))])
  (λz=>μ cq 5 OC (some ⟨bs,0,none⟩) O.length z.2::η Na (z.2.take z.1)::τ cq 5 ad O::η Na O::L) (λz=>O.length - z.1) (0,List.replicate O.length Xd) ah aG ?_ ?_
 .dsimp only;rw[bA];refine(E.c7 Na).trans ?_;exact aj
 rintro⟨i,zs⟩ ⟨hi,a5,J⟩;dsimp only at hi a5 J ⊢;by_cases a7:i<O.length
 case neg =>
  have a6:i=O.length:=D;subst a6;rw[aN D,aN D] at J;rw[aN D];refine ML ?_;intros;refine KX.a8 aC (E.NZ) ⟨some ⟨bs,0,none⟩,O.length,zs,by rw[a5];rfl,J,rfl⟩
 have a3:(i:Int).toNat=i:=D;have a4:O[i]!∈O:=bI a7;refine ML ?_;intros;rw[a3];refine Y.cM (E.at (Φ:=η Na O) (E.d8 (x:=O[i]!) a4)) ?_;refine Y.ef (Ef.f7 rfl rfl (Ad O[i]! (hp _ a4))) ac ?_;rintro _ _⟨m',rfl,a9,rfl⟩;refine ML ?_;intros;refine Y.No (Ef.k8 (e:=m') rfl rfl aY aY (mN _) D) ?_;rintro _ _ rfl;rw[a3];refine ML ?_;intros;refine⟨(i+1,zs.set i m'),⟨D,ah,?_⟩,D,?_,?_⟩
 .grind [iO,aB]
 .dsimp only;rw[bJ i];exact aG
 .dsimp only;rw[iO D];refine E.a8 ?_;refine E.trans (hx:=η Na (zs.take i)::Na m'::τ cq 5 ad O::η Na O::L) aj ?_;exact(E.a8 (E.d7 kq)).trans (E.c9 kq)
structure D7 where
 r:Int
 Ζ:Int
 Rt:Int
 B:Int
 K8:Int
 Oi:Int
 gN:List B1
 deriving Inhabited
structure L9 where
 r:Int
 Ζ:Int
 Rt:Int
 B:Int
 K8:Int
 Oi:Int
 gN:List J5
 gi:OA
 iM:Nat
 deriving Inhabited
def L9.m(s:L9):D7:=⟨s.r,s.Ζ,s.Rt,s.B,s.K8,s.Oi,s.gN.map (·.m)⟩
def eH(s:L9):χ:=[K s.r,K s.Ζ,K s.Rt,K s.B,K s.K8,K s.Oi,ae s.gi s.gN.length s.iM]
def uT(t:L9):∀u∈eH t,u.oneCell' = true:=by simp[eH,Value.oneCell']
abbrev stM(s:L9):HP:=τ cq 5 s.gi s.gN
abbrev Nb(s:L9):HP:=η Na s.gN
def Dt(s:L9):Og (stM s):=cT _ _ _ _
def Ac{L:Ι}(s:L9)(T:s.gN.length<=64)(hp:∀m∈s.gN,m.m.Γ.length<=1000000) :
  Υ Λ 133 #[bC (eH s)] (stM s::Nb s::L) (λv Ε=>∃s',v=bC (eH s')/\s'.m=s.m/\Ε = stM s'::Nb s'::stM s::Nb s::L):=by
 obtain⟨i0,i1,i2,i3,i4,i5,O,gi,iM⟩:=s;dsimp only at T hp;refine Υ.bd (args:=[bC (eH ⟨i0,i1,i2,i3,i4,i5,O,gi,iM⟩)]) ?_;refine ML ?_;intros;refine Y.cM (E.at (Φ:=τ cq 5 gi O) (E.a8 (E.at (Φ:=η Na O) (E.refl _)))) ?_;refine Y.ca (zV gi iM O T hp) ?_;rintro _ _⟨A,c',a2,rfl,J,rfl⟩;refine ML ?_;intros;refine KX.a8 (by exact C9.cell rfl aY (C9.nil)) ?_ ⟨⟨i0,i1,i2,i3,i4,i5,a2,A,c'⟩,rfl,by simp only[L9.m,J],rfl⟩;exact aj
structure Q4 where
 name:ByteArray
 obj:Bool
 mixed:Bool
 UN:Bool
 TN:Int
 bind:Int
 level:Int
 deriving Inhabited
def dG(i:Q4):χ:=[.string i.name,.bool i.obj,.bool i.mixed,.bool i.UN,K i.TN,K i.bind,K i.level]
def uU(t:Q4):∀u∈dG t,u.oneCell' = true:=by simp[dG,Value.oneCell']
instance:Rl dG:=⟨uU⟩
def xk{L:Ι}(ad:OA)(n c:Nat)(G:List Q4)[F5 L ad Q4 dG 7 G](hn:n=G.length)(hb:n<=1000000) :
  Υ Λ 159 #[ae ad n c] L (λv Ε=>∃J A,v=ae J G.length A/\Ε = μ dG 7 214 J A G::L):=by
 refine Υ.bd ?_;repeat' first|refine ab ?_|intro _|with_reducible refine CB.dec (λ_=>?_) (λ_=>?_)|with_reducible refine GB.dec (λ_=>?_) (λ_=>?_)|with_reducible refine CB.bool (λ_=>?_) (λ_=>?_)|with_reducible refine GB.bool (λ_=>?_) (λ_=>?_)
 .have h:ad=none:=by assumption
  subst h;refine KX.f9 (.inl rfl) (oI (L:=L) (G:=G)) ?_;intro M;subst M;refine KX.a8 aC (E.c8 dG 7 214) ⟨_,_,rfl,rfl⟩
 .refine Y.cM (E.d9 (Η:=dG) (sz:=7) (G:=[]) rfl rfl cg cg) ?_;refine Y.ef (Ef.c9 rfl rfl rfl rfl hn (λe _=>uU e) ib ib) ac ?_;rintro _ _⟨J,A,rfl,rfl⟩;refine ML ?_;intros;refine KX.a8 aC (E.refl _) ⟨J,A,rfl,rfl⟩
structure Uk where
 name:ByteArray
 spawn:Bool
 level:Int
 time:Int
 Y2:Int
 Y3:Int
 take:List (Int×Int)
 VZ:List (Int×Int)
 back:List (Int×Int)
 deriving Inhabited
def EZ{L:Ι}(ad:OA)(c:Nat):Υ Λ 160 #[ae ad 0 c,.func (.func 161) #[] #[]] L (F7 (ae none 0 0) L):=by
 refine Υ.bd ?_;refine ML ?_;intros;exact KX.en ⟨rfl,rfl⟩
def EY{L:Ι}(ad:OA)(c:Nat):Υ Λ 162 #[ae ad 0 c,.func (.func 163) #[] #[]] L (F7 (ae none 0 0) L):=by
 refine Υ.bd ?_;refine ML ?_;intros;exact KX.en ⟨rfl,rfl⟩
def EX{L:Ι}(ad:OA)(c:Nat):Υ Λ 164 #[ae ad 0 c,.func (.func 165) #[] #[]] L (F7 (ae none 0 0) L):=by
 refine Υ.bd ?_;refine ML ?_;intros;exact KX.en ⟨rfl,rfl⟩
structure B4 where
 B7:List Q4
 rules:List Uk
structure K9 where
 B7:List Q4
 I6:OA
 K1:Nat
 N2:OA
 N3:Nat
 RJ:OA
 RK:Nat
 R6:OA
 R7:Nat
def K9.m(c:K9):B4:=⟨c.B7,[]⟩
def K9.cells(c:K9):χ:=[ae c.I6 c.B7.length c.K1,ae c.N2 0 c.N3,ae c.RJ 0 c.RK,ae c.R6 0 c.R7]
def Oc(c:K9):HP:=τ dG 7 c.I6 c.B7
def Me(c:K9):Og (Oc c):=cT _ _ _ _
def V0{c:K9}{L:Ι}:E (Oc c::L) (τ dG 7 c.I6 c.B7::Oc c::L):=E.dup (Me c).QM
structure K9.hx (c:K9):Prop where
 B7:c.B7.length<=64
theorem K9.a8{c c' : K9}(h:c'.m=c.m)(hB:c.hx):c'.hx:=⟨by rw[show c'.B7=c.B7 from congrArg B4.B7 h];exact hB.B7⟩
abbrev DI:List K3:=[.ev 0,.ev 1,.ev 3,.ev 4,.ev 6,.ev 7,.ev 9,.ev 10,.ef 2,.ef 5,.ef 8,.ef 11,.ev 12,.ef 13]
def MU{φ ψ:Prop}(k:ψ)(h:Hid ψ->φ:=by intro k;(repeat (first|refine ab ?_|intro B8|refine Β.dr 16 1 DI ?_));(repeat revert B8);exact Hid.out k):φ:=h ⟨k⟩
def qj{L:Ι}(c:K9)(hb:c.hx) :
  Υ Λ 108 #[bC c.cells] (Oc c::L) (λv Ε=>∃c',v=.agg c'.cells.toArray/\c'.m=c.m/\Ε = Oc c'::Oc c::L):=by
 obtain⟨B7,I6,K1,N2,N3,RJ,RK,R6,R7⟩:=c;have a2:=hb.B7;dsimp only at a2;refine Υ.bd (args:=[bC (K9.cells ⟨B7,I6,K1,N2,N3,RJ,RK,R6,R7⟩)]) ?_;refine Β.cM V0 ?_;dsimp only;refine MU ?_;intros;refine δ.ca (xk I6 B7.length K1 B7 rfl D) ?_;rintro _ _⟨A,J,rfl,rfl⟩;refine MU ?_;intros;refine δ.cr (EZ N2 N3) ?_;refine MU ?_;intros;refine δ.cr (EY RJ RK) ?_;refine MU ?_;intros;refine δ.cr (EX R6 R7) ?_;refine MU ?_;intros;refine KX.a8 (by exact C9.cell rfl aY (C9.nil)) ?_ ⟨⟨B7,A,J,none,0,none,0,none,0⟩,rfl,rfl,rfl⟩;refine(E.RI A).trans ?_;refine E.trans (hx:=τ dG 7 A B7::Oc ⟨B7,I6,K1,N2,N3,RJ,RK,R6,R7⟩::L) aj ?_;exact E.refl _
end
section
open Go.V
abbrev Pv:Nat:=135
abbrev Oo:Nat:=222
structure x4 where
 d:Int
 fr:Int
 ts:Int
 to:Int
 am:List (Int×Int)
 deriving Inhabited,DecidableEq
structure MT where
 m:x4
 ad:OA
 cap:Nat
 deriving Inhabited
def aZ(l:MT):χ:=[K l.m.d,K l.m.fr,K l.m.ts,K l.m.to,ae l.ad l.m.am.length l.cap]
def li(l:MT):∀u∈aZ l,u.oneCell' = true:=by simp[aZ,Value.oneCell']
instance:Rl aZ:=⟨li⟩
abbrev ms(l:MT):HP:=τ eh 2 l.ad l.m.am
def fx(l:MT):Og (ms l):=cT _ _ _ _
structure G4 where
 Ζ:Int
 r:Int
 ai:Int
 yes:Bool
 Α:List x4
 Μ:List Int
 deriving Inhabited,DecidableEq
structure OK where
 Ζ:Int
 r:Int
 ai:Int
 yes:Bool
 Α:List MT
 bD:OA
 id:Nat
 Μ:List Int
 C4:OA
 F3:Nat
def OK.m(c:OK):G4:=⟨c.Ζ,c.r,c.ai,c.yes,c.Α.map (·.m),c.Μ⟩
def eO(c:OK):χ:=[K c.Ζ,K c.r,K c.ai,.bool c.yes,ae c.bD c.Α.length c.id,ae c.C4 c.Μ.length c.F3]
def Ha(c:OK):∀u∈eO c,u.oneCell' = true:=by simp[eO,Value.oneCell']
instance:Rl eO:=⟨Ha⟩
def MV(c:OK):HP:=R5 (τ aZ 5 c.bD c.Α) (R5 (η ms c.Α) (τ (eU .i64) 1 c.C4 c.Μ))
def Ab{c:OK}{L:Ι}:E (MV c::L) (τ aZ 5 c.bD c.Α::η ms c.Α::τ (eU .i64) 1 c.C4 c.Μ::L):=E.Uf.trans (E.a8 E.Uf)
def MG(c:OK):Og (MV c):=Og.and (cT _ _ _ _) (Og.and (eV fx) (cT _ _ _ _))
def dl(l:x4):List Int:=[l.d,l.fr,l.ts,l.to]++l.am.flatMap λa=>[a.1,a.2]
def Nx(l:List Int):List Int:=uv l.length++N0 l
def OR(m:G4):List Int:=uv (zz m.Ζ)++uv (zz m.r)++uv (zz m.ai)++[if m.yes=true then 1 else 0]++uv (zz m.Α.length)++(m.Α.flatMap λl=>Nx (dl l))++Nx m.Μ
def lP(l:x4):Prop:=(xs l.d/\xs l.fr/\xs l.ts/\xs l.to)/\l.am.length<=100/\∀a∈l.am,xs a.1/\xs a.2
structure OL (m:G4):Prop where
 num:xs m.Ζ/\xs m.r/\xs m.ai
 Α:m.Α.length<=32
 lg:∀l∈m.Α,lP l
 fl:m.Μ.length<=1000
 fn:∀f∈m.Μ,xs f
def SP(l:x4)(j:Nat):List Int:=[l.d,l.fr,l.ts,l.to]++(l.am.take j).flatMap λa=>[a.1,a.2]
theorem Kx(l:x4):SP l l.am.length=dl l:=by unfold SP dl;grind
theorem Iy(l:x4){j:Nat}(h:j<l.am.length):SP l (j+1)=SP l j++[l.am[j]!.1,l.am[j]!.2]:=by
 grind [SP,aB]
theorem qI(l:x4):(dl l).length=4+2*l.am.length:=by
 have h:∀a:List (Int×Int),(a.flatMap λa=>[a.1,a.2]).length=2*a.length:=λa=>by
  induction a with
  | nil=>rfl
  | cons x t ih=>grind
 unfold dl;grind
def Kw(l:x4){j:Nat}(h:j<=l.am.length):(SP l j).length=4+2*j:=by
 have:=qI ⟨l.d,l.fr,l.ts,l.to,l.am.take j⟩
 rw[aP,dE h] at this;exact this
theorem qJ{l:x4}(h:lP l):∀x∈dl l,xs x:=λx M=>by
 obtain⟨⟨I,Q,h3,h4⟩,_,h5⟩:=h;rcases J4 M with q|q
 .grind
 grind
theorem CH{l:List Int}(h:∀x∈l,xs x)(T:l.length<=1000000):(Nx l).length<=10+10*l.length:=by
 grind [mT,gV,Nx]
def nO:∀{ls:List x4},(∀l∈ls,lP l)->(ls.flatMap λl=>Nx (dl l)).length<=2050*ls.length
 | [],_=>ax _
 | l::ls,h=>by
  have I:=nO (ls:=ls) (λx M=>h x (az _ M));have Q:=h l au;have h3:=qI l;have h4:=CH (qJ Q) (by have:=Q.2.1;omega);have h5:=Q.2.1;rw[aS,aA,aL];omega
attribute [local irreducible] Β Y GP δ vi GF GE Z Ef C0 E CB GB V.Enters
theorem BR{L:Ι}(c:OK)(hc:OL c.m) :
  Υ Λ 204 #[bC (eO c)] (MV c::L) (λv Ε=>∃ad cap,v=ae ad (OR c.m).length cap/\Ε = μ (eU .u8) 1 5 ad cap (OR c.m)::MV c::L):=by
 obtain⟨⟨k1,k2,k3⟩,T,c3,a4,b0⟩:=hc;have c4:c.Α.length<=32:=by have:c.m.Α.length=c.Α.length:=ak _;omega
 have a4:c.Μ.length<=1000:=a4;have u1:=gV (kP k1.1 k1.2);have u2:=gV (kP k2.1 k2.2);have u3:=gV (kP k3.1 k3.2);have k5:xs (c.Α.length:Int):=by unfold xs;omega
 have u5:=gV (kP k5.1 k5.2);refine Υ.bd ?_;refine Β.cM ((E.dup (MG c).QM).trans Ab) ?_;simp only[eO];refine ML ?_;intros;rename_i bc bw;refine Y.cM (E.trans (hx:=Rq bw [] ⟨none,0,0⟩ (obj bc Oo (eO c)::τ aZ 5 c.bD c.Α::η ms c.Α::τ (eU .i64) 1 c.C4 c.Μ::MV c::L)) ((E.c8 (eU .u8) 1 5).trans (by simp only[Rq,bq,eO];exact aj)) (oB ⟨none,0,0⟩)) ?_;refine Y.ca (lS bw [] c.Ζ k1.1 k1.2 (aD _)) ?_;rintro _ _ rfl;rw[av];simp only[eO];refine ML ?_;intros;refine Y.ca (lS bw (uv (zz c.Ζ)) c.r k2.1 k2.2 (aO u1 ac)) ?_;rintro _ _ rfl;refine ML ?_;intros;have x2:(uv (zz c.Ζ)++uv (zz c.r)).length<=20:=by rw[aA];exact cH u1 u2
 refine Y.ca (lS bw (uv (zz c.Ζ)++uv (zz c.r)) c.ai k3.1 k3.2 D) ?_;rintro _ _ rfl;refine ML ?_;intros;have x3:(uv (zz c.Ζ)++uv (zz c.r)++uv (zz c.ai)).length<=30:=by rw[aA];exact cH x2 u3
 generalize Y4:uv (zz c.Ζ)++uv (zz c.r)++uv (zz c.ai)=X3 at *;refine Y.ca (Di bw X3 c.yes D) ?_;rintro _ _ rfl;refine ML ?_;intros;have acW:(X3++[if c.yes=true then 1 else 0]).length<=31:=by rw[aA];exact cH x3 (ax 1)
 generalize Y5:X3++[if c.yes=true then 1 else 0]=X4 at *;refine Y.ca (lS bw X4 (c.Α.length:Int) k5.1 k5.2 D) ?_;rintro _ _ rfl;refine ML ?_;intros;have acX:(X4++uv (zz c.Α.length)).length<=41:=by rw[aA];exact D
 generalize Y6:X4++uv (zz (c.Α.length:Int))=X5 at *;have c5:c.m.Α=c.Α.map (·.m):=rfl;refine Β.loop (α:=Nat) (λi=>i<=c.Α.length) (λi=>[(1,ay bc),(3,ay bw),(33,ae c.bD c.Α.length c.id),(34,K (c.Α.length:Int)),(35,K (i:Int))]) (λi=>Qj bw (X5++(c.m.Α.take i).flatMap λl=>Nx (dl l))::obj bc Oo [K c.Ζ,K c.r,K c.ai,.bool c.yes,ae c.bD c.Α.length c.id,ae c.C4 c.Μ.length c.F3]::τ aZ 5 c.bD c.Α::η ms c.Α::τ (eU .i64) 1 c.C4 c.Μ::MV c::L) (λi=>c.Α.length - i) 0 D aG (by rw[bA,cZ,aJ];exact E.refl _) ?_;intro i hi;have J:=nO (ls:=c.m.Α.take i) ah;rw[aP] at J;by_cases b7:i<c.Α.length
 case neg =>
  rw[aN ah] at J ⊢
  have hW:X5++(c.m.Α.flatMap λl=>Nx (dl l))++uv c.Μ.length++N0 c.Μ=OR c.m:=by
   rw[<-Y6,<-Y5,<-Y4];unfold OR;rw[show c.m.Α.length=c.Α.length by grind];simp only[Nx,aF];rfl
  have A:∀f∈c.Μ,xs f:=b0;have b8:c.m.Α.length<=32:=T
  have a9:(X5++(c.m.Α.flatMap λl=>Nx (dl l))).length<=41+65600:=by
   rw[aA];have:min i c.m.Α.length<=c.m.Α.length:=D;omega
  have c2:(OR c.m).length<=1000000:=by
   have I:=mT A;have Q:=gV (n:=c.Μ.length) D;rw[<-hW,aA,aA];omega
  refine ML ?_;intros;refine Y.ca (tV bw (X5++(c.m.Α.flatMap λl=>Nx (dl l))) c.C4 c.Μ.length c.F3 c.Μ rfl A D) ?_;rintro _ _ rfl;rw[hW];refine ML ?_;intros;refine Y.ca (Dh bw (OR c.m) D) ?_;rintro _ _⟨ad,cap,rfl,_,rfl⟩;refine ML ?_;intros;exact KX.en ⟨ad,cap,rfl,rfl⟩
 have b1:(i:Int).toNat=i:=D;have a3:=bI b7;have a6:c.m.Α[i]! = c.Α[i]!.m:=ah;have c1:lP c.Α[i]!.m:=ah;obtain⟨⟨g1,g2,g3,g4⟩,g5,g6⟩:=c1;refine Β.cM (E.at (Φ:=η ms c.Α) (E.d8 (f:=ms) a3)) ?_;obtain⟨l,a5⟩:∃l,c.Α[i]! = l:=⟨_,rfl⟩;have b6:c.Α[(i:Int).toNat]! = l:=by rw[b1];exact a5
 rw[a5] at g1 g2 g3 g4 g5 g6 a6 ⊢;refine ML ?_;intros;rw[b6];rename_i bl bn;refine Β.loop (α:=Nat×OA×Nat) (λg=>g.1<=l.m.am.length) (λg=>[(1,ay bc),(3,ay bw),(33,ae c.bD c.Α.length c.id),(34,K (c.Α.length:Int)),(35,K (i:Int)),(6,ae g.2.1 (SP l.m g.1).length g.2.2),(49,ae l.ad l.m.am.length l.cap),(50,K (l.m.am.length:Int)),(51,K (g.1:Int))]) (λg=>μ (eU .i64) 1 C3 g.2.1 g.2.2 (SP l.m g.1)::ms l::η ms c.Α::Qj bw (X5++(c.m.Α.take i).flatMap λl=>Nx (dl l))::obj bc Oo [K c.Ζ,K c.r,K c.ai,.bool c.yes,ae c.bD c.Α.length c.id,ae c.C4 c.Μ.length c.F3]::τ aZ 5 c.bD c.Α::τ (eU .i64) 1 c.C4 c.Μ::MV c::L) (λg=>l.m.am.length - g.1) (0,some ⟨bn,0,none⟩,4) D aG ?_ ?_
 .refine(E.d9 (Η:=eU .i64) (sz:=1) (G:=SP l.m 0) (n:=4) rfl rfl (λ_ _=>rfl) ac).trans ?_;exact aj
 rintro⟨j,I7,M5⟩ hj;dsimp only at hj ⊢;have c0:=Kw l.m hj;by_cases b5:j<l.m.am.length
 case neg =>
  have b3:j=l.m.am.length:=D;subst b3;rw[Kx] at c0 ⊢;have b9:∀x∈dl l.m,xs x:=qJ ah
  have a9:(X5++((c.m.Α.take i).flatMap λl=>Nx (dl l))).length<=41+65600:=by
   rw[aA];have:min i c.m.Α.length<=c.m.Α.length:=D;omega
  refine ML ?_;intros;refine Y.cM (Ε:=Qj bw (X5++(c.m.Α.take i).flatMap λl=>Nx (dl l))::μ (eU .i64) 1 C3 I7 M5 (dl l.m)::ms l::η ms c.Α::obj bc Oo [K c.Ζ,K c.r,K c.ai,.bool c.yes,ae c.bD c.Α.length c.id,ae c.C4 c.Μ.length c.F3]::τ aZ 5 c.bD c.Α::τ (eU .i64) 1 c.C4 c.Μ::MV c::L) aj ?_;refine Y.ca (tV bw (X5++(c.m.Α.take i).flatMap λl=>Nx (dl l)) I7 (dl l.m).length M5 (dl l.m) rfl b9 D) ?_;rintro _ _ rfl;refine ML ?_;intros;refine⟨i+1,D,D,?_,?_⟩
  .rw[bJ i];exact aG
  .rw[aB ah,dJ,<-E7 ah,a6,aS,cZ,aJ,<-aF X5];refine E.trans (hx:=Qj bw (X5++((c.m.Α.take i).flatMap λl=>Nx (dl l))++uv (dl l.m).length++N0 (dl l.m))::obj bc Oo [K c.Ζ,K c.r,K c.ai,.bool c.yes,ae c.bD c.Α.length c.id,ae c.C4 c.Μ.length c.F3]::τ aZ 5 c.bD c.Α::η ms c.Α::τ (eU .i64) 1 c.C4 c.Μ::MV c::L) aj ?_;rw[show X5++((c.m.Α.take i).flatMap λl=>Nx (dl l))++uv (dl l.m).length++N0 (dl l.m)=X5++((c.m.Α.take i).flatMap λl=>Nx (dl l))++Nx (dl l.m) by simp only[Nx,aF]];exact E.refl _
 have b4:(j:Int).toNat=j:=D;refine ML ?_;intros;rename_i ba b2;rw[b4];refine Y.cM ((E.d9 (Η:=eU .i64) (sz:=1) (G:=[l.m.am[j]!.1,l.m.am[j]!.2]) (n:=2) rfl rfl (λ_ _=>rfl) ac).trans (E.NZ.trans aj)) ?_;refine Y.ef (Ef.c9 (ys:=[l.m.am[j]!.1,l.m.am[j]!.2]) rfl rfl rfl rfl rfl (λe _=>iq _ e) ib ib) ac ?_;rintro _ _⟨a7,a2,rfl,rfl⟩;rw[<-Iy l.m b5];refine ML ?_;intros;refine⟨(j+1,a7,a2),by dsimp only;omega,D,?_,by exact aj⟩;dsimp only;rw[bJ j];exact aG
end
section
open Go.V
theorem Lo(n:Nat):1<=(uv n).length:=by
 grind [mY,qq]
def GC:∀l:List Int,l.length<=(N0 l).length
 | []=>ax _
 | n::l=>by
  have I:=GC l;have Q:=Lo (zz n);show l.length+1<=(uv (zz n)++N0 l).length;rw[aA];omega
theorem sZ(l:List Int):iB (N0 l):=λx M=>by
 obtain⟨n,_,h⟩:=List.mem_flatMap.1 M;exact lv _ x h
def IL(n:Int)(l:List Int):N0 (n::l)=uv (zz n)++N0 l:=rfl
theorem kN{a b:List Int}(ha:iB a)(hb:iB b):iB (a++b):=ah
attribute [local irreducible] Β Y GP δ vi GF GE Z Ef C0 E CB GB V.Enters
theorem DC{L:Ι}(b:Nat)(ys t:List Int)(U:∀y∈ys,xs y)(ht:iB t)(hm:ys.length<=100000)(T:t.length<=10000000) :
  Υ Λ 283 #[ay b,.func (.func 198) #[ay b] #[]] (Oh b (uv ys.length++(N0 ys++t)) 0::L)
   (λv Ε=>∃ad cap,v=ae ad ys.length cap/\Ε = μ (eU .i64) 1 3 ad cap ys::Oh b t 0::L):=by
 have a9:=GC ys;have b1:=mT U;refine Υ.bd ?_;refine ML ?_;intros;refine Y.cr (uj b (uv ys.length++(N0 ys++t)) 0 (by grind [lv,sZ])) ?_;rw[yk D];dsimp only;have a3:ys.length<=(N0 ys++t).length/\(N0 ys++t).length<=20000000:=by rw[aA];omega
 obtain⟨a3,b3⟩:=a3;refine Y.c8 (f:=λx=>SM b (N0 ys++t) 0 x []) ?_;intro x;simp only[aq,av];refine Y.d7 ?_;intro a2;refine ML ?_;intros;refine Y.ef (Ef.m6 (eU .i64) rfl rfl D D D) ac ?_;rintro _ _⟨mb,rfl,rfl⟩;refine ML ?_;intros;refine Β.loop (α:=Nat×Sn) (λg=>g.1<=ys.length) (λg=>[(0,ay b),(1,.func (.func 198) #[ay b] #[]),(6,ae g.2.ad (ys.take g.1).length g.2.cap),(29,K (ys.length:Int)),(30,K (g.1:Int))]) (λg=>μ (eU .i64) 1 3 g.2.ad g.2.cap (ys.take g.1)::Oh b (N0 (ys.drop g.1)++t) 0::L) (λg=>ys.length - g.1) (0,⟨some ⟨mb,0,none⟩,0,(ys.length:Int).toNat⟩) D aG (E.a8 (gA x a2)) ?_;rintro⟨i,y⟩ hi;dsimp only at hi ⊢;have b4:(ys.take i).length=i:=by rw[aP];omega
 by_cases hin:i<ys.length
 case neg =>
  have b0:i=ys.length:=D;rw[aN D,bV D];refine ML ?_;intros;exact KX.en ⟨y.ad,y.cap,rfl,rfl⟩
 have a6:ys.drop i=ys[i]!::ys.drop (i+1):=ka hin;have a7:=U _ (bI hin);have a5:iB (N0 (ys.drop (i+1))++t):=kN (sZ _) ht
 have b2:(N0 (ys.drop (i+1))++t).length<=20000000:=by
  have I:=mT (l:=ys.drop (i+1)) ah;rw[cB] at I;rw[aA];omega
 rw[a6,IL,aF];refine ML ?_;intros;refine Y.ef (Ef.l8 (vs:=[]) (first:=[ay b]) (cap:=[]) (kU (L:=[]) b ys[i]! (N0 (ys.drop (i+1))++t) a7 a5) rfl rfl (E.perm (List.Perm.swap _ _ _))) ac ?_;rintro _ _⟨_,⟨rfl,rfl⟩,hL⟩;simp only[aq,av] at hL;subst hL;refine ML ?_;intros;refine Y.ef (Ef.a8 (e:=ys[i]!) rfl rfl rfl rfl rfl aY (iq _ _) D D) ac ?_;rintro _ _⟨a4,J,rfl,rfl⟩;rw[E7 hin,<-aB hin];refine ML ?_;intros;refine Y.cM (E.at (Φ:=Oh b (N0 (ys.drop (i+1))++t) 0) (E.refl _)) ?_;refine Y.c8 (f:=λx=>SM b (N0 (ys.drop (i+1))++t) 0 x []) ?_;intro x2;simp only[aq,av];refine Y.d7 ?_;intro A;refine ML ?_;intros;refine⟨(i+1,⟨a4,0,J⟩),D,D,?_,?_⟩
 .dsimp only;rw[show(((i+1:Nat)):Int)=(i:Int)+1 by omega];exact aG
 .dsimp only;refine(gA x2 A).trans ?_;exact aj
def uk{L:Ι}(b:Nat)(ys t:List Int)(U:∀y∈ys,xs y)(ht:iB t)(hm:ys.length<=100000)(T:t.length<=10000000) :
  Υ Λ 200 #[ay b] (Oh b (uv ys.length++(N0 ys++t)) 0::L)
   (λv Ε=>∃ad cap,v=ae ad ys.length cap/\Ε = μ (eU .i64) 1 3 ad cap ys::Oh b t 0::L):=by
 refine Υ.bd ?_;refine ML ?_;intros;refine Y.ca (DC b ys t U ht hm T) ?_;rintro _ _⟨ad,cap,rfl,rfl⟩;refine ML ?_;intros;exact KX.en ⟨ad,cap,rfl,rfl⟩
end
section
open Go.V
def zr(l:List Int):iB (Nx l):=kN (lv _) (sZ _)
def EH(ls:List x4):iB (ls.flatMap λl=>Nx (dl l)):=λx M=>by
 obtain⟨l,_,h⟩:=List.mem_flatMap.1 M;exact zr _ x h
theorem Hq(m:G4):OR m=uv (zz m.Ζ)++(uv (zz m.r)++(uv (zz m.ai)++((if m.yes=true then 1 else 0)::(uv (zz m.Α.length)++((m.Α.flatMap λl=>Nx (dl l))++Nx m.Μ))))):=by
 grind [OR]
theorem GY{am:List (Int×Int)}:∀{j:Nat},j<am.length->(am.flatMap λa=>[a.1,a.2])[2*j]! = am[j]!.1/\(am.flatMap λa=>[a.1,a.2])[2*j+1]! = am[j]!.2:=by
 induction am with
 | nil=>grind
 | cons a t ih =>
  intro j h;rw[aS];cases j with
  | zero=>grind
  | succ j =>
   grind
theorem Gt{l:x4}{j:Nat}(h:j<l.am.length):(dl l)[4+2*j]! = l.am[j]!.1/\(dl l)[4+2*j+1]! = l.am[j]!.2:=by
 have:=GY h
 grind [dl]
attribute [local irreducible] Β Y GP δ vi GF GE Z Ef C0 E CB GB V.Enters
abbrev yJ:=Yv [.ef 13,.ef 14]
abbrev yI:=Yu [.ev 10,.ev 11,.ef 12,.ef 13,.ev 14,.ef 15]
abbrev yH:List K3:=[.ev 0,.ev 1,.ef 2,.ev 3,.ef 4,.ev 5]
def MZ{φ ψ:Prop}(k:ψ)(h:Hid ψ->φ:=by intro k;(repeat (first|refine ab ?_|intro B8|refine Β.dr 93 11 yJ ?_|refine Β.dr 93 15 yI ?_|refine Β.dr 93 19 yH ?_));(repeat revert B8);exact Hid.out k):φ:=h ⟨k⟩
theorem BV{L:Ι}(ad:OA)(n c:Nat)(m:G4)(hm:OL m)[hrd:F5 L ad Int (eU .u8) 1 (OR m)](hn:n=(OR m).length) :
  Υ Λ 143 #[ae ad n c] L (λv Ε=>∃c',v=.tuple #[bC (eO c'),.bool true]/\c'.m=m/\Ε = MV c'::L):=by
 subst hn;obtain⟨⟨k1,k2,k3⟩,T,b7,d2,b6⟩:=hm;have k5:xs (m.Α.length:Int):=by unfold xs;omega
 have u1:=gV (kP k1.1 k1.2);have u2:=gV (kP k2.1 k2.2);have u3:=gV (kP k3.1 k3.2);have u5:=gV (kP k5.1 k5.2);have hL:=nO b7;have hF:=CH b6 D
 have d1:(OR m).length<=1000000:=by
  rw[Hq];simp only[aA,aL];omega
 have b0:=zr m.Μ;have b1:=kN (EH m.Α) b0;have b2:=kN (lv (zz m.Α.length)) b1;have b3:iB ((if m.yes=true then 1 else 0)::(uv (zz m.Α.length)++((m.Α.flatMap λl=>Nx (dl l))++Nx m.Μ))):=ah;have b4:=kN (lv (zz m.ai)) b3;have b5:=kN (lv (zz m.r)) b4;refine Υ.bd ?_;refine MZ ?_;intros;refine Y.ca (FM ad (OR m).length c (OR m) rfl D) ?_;rintro _ _⟨br,rfl,rfl⟩;rw[Hq];refine MZ ?_;intros;refine Y.cr (kU br m.Ζ _ k1 b5) ?_;refine MZ ?_;intros;refine Y.cr (kU br m.r _ k2 b4) ?_;refine MZ ?_;intros;refine Y.cr (kU br m.ai _ k3 b3) ?_;refine MZ ?_;intros;refine Y.cr (AH br m.yes _) ?_;refine MZ ?_;intros;rename_i a2 bc;refine Y.cM (E.at (Φ:=Oh br (uv (zz m.Α.length)++((m.Α.flatMap λl=>Nx (dl l))++Nx m.Μ)) 0) (E.refl _)) ?_;refine Y.cr (kU br (m.Α.length:Int) _ k5 b1) ?_;refine MZ ?_;intros;refine Β.loop (α:=Nat×List MT×OA×Nat) (λg=>g.1<=m.Α.length/\g.2.1.map (·.m)=m.Α.take g.1) (λg=>[(2,ay a2),(4,ay br),(5,ay bc),(6,K (m.Α.length:Int)),(30,K (m.Α.length:Int)),(31,K (g.1:Int))]) (λg=>Oh br ((m.Α.drop g.1).flatMap (λl=>Nx (dl l))++Nx m.Μ) 0::obj bc Oo [K m.Ζ,K m.r,K m.ai,.bool m.yes,ae g.2.2.1 g.2.1.length g.2.2.2,ae none 0 0]::μ aZ 5 Pv g.2.2.1 g.2.2.2 g.2.1::η ms g.2.1::obj a2 Oo [K 0,K 0,K 0,.bool false,ae none 0 0,ae none 0 0]::L) (λg=>m.Α.length - g.1) (0,[],none,0) ah aG ?_ ?_
 .dsimp only;rw[List.drop_zero,bq];refine(E.c8 aZ 5 Pv).trans ((E.c7 ms).trans ?_);exact aj
 rintro⟨i,vs,bD,id⟩ ⟨hi,a5⟩;dsimp only at hi a5 ⊢
 have d3:vs.length=i:=by
  have:=congrArg List.length a5
  rw[ak,aP] at this;omega
 by_cases b9:i<m.Α.length
 case neg =>
  rw[aN D] at a5;rw[bV D,cZ,av];refine MZ ?_;intros;refine Y.cM (Ε:=Oh br (uv m.Μ.length++(N0 m.Μ++[])) 0::(obj bc Oo [K m.Ζ,K m.r,K m.ai,.bool m.yes,ae bD vs.length id,ae none 0 0]::μ aZ 5 Pv bD id vs::η ms vs::obj a2 Oo [K 0,K 0,K 0,.bool false,ae none 0 0,ae none 0 0]::L)) (by rw[aJ];show E (Oh br (Nx m.Μ) 0::_) (Oh br (Nx m.Μ) 0::_);exact aj) ?_;refine Y.ca (uk br m.Μ [] b6 (λ_ h=>iJ h aH) D (aD _)) ?_;rintro _ _⟨C4,F3,rfl,rfl⟩;refine MZ ?_;intros;refine δ.cM (Ε:=Oh br [] 0::(obj bc Oo [K m.Ζ,K m.r,K m.ai,.bool m.yes,ae bD vs.length id,ae C4 m.Μ.length F3]::μ (eU .i64) 1 C3 C4 F3 m.Μ::μ aZ 5 Pv bD id vs::η ms vs::obj a2 Oo [K 0,K 0,K 0,.bool false,ae none 0 0,ae none 0 0]::L)) aj ?_;refine δ.cr (FP br [] 0) ?_;rw[Ο cg,Ω rfl];refine MZ ?_;intros;refine KX.a8 (by exact C9.cell rfl aY (C9.tmp rfl (C9.nil))) ?_ ⟨⟨m.Ζ,m.r,m.ai,m.yes,vs,bD,id,m.Μ,C4,F3⟩,by rw[bO rfl];rfl,by unfold OK.m;dsimp only;rw[a5],rfl⟩;refine(E.at (Φ:=μ aZ 5 Pv bD id vs) E.NZ).trans ?_;refine(E.at (Φ:=μ (eU .i64) 1 C3 C4 F3 m.Μ) E.NZ).trans ?_;refine E.trans (hx:=η ms vs::τ (eU .i64) 1 C4 m.Μ::τ aZ 5 bD vs::L) aj ?_;exact(E.g8 (eV fx) (cT _ _ _ _)).trans (E.swap.trans (E.g8 (cT _ _ _ _) (Og.and (eV fx) (cT _ _ _ _))))
 have c6:=bI b9;have a9:=b7 _ c6;have c3:iB ((m.Α.drop (i+1)).flatMap (λl=>Nx (dl l))++Nx m.Μ):=ah;have a7:=nO (ls:=m.Α.drop (i+1)) ah;rw[cB] at a7;have c0:=qI m.Α[i]!;have hI:=qJ a9;have c1:=a9.2.1;rw[ka b9,aS,aF,show Nx (dl m.Α[i]!)=uv (dl m.Α[i]!).length++N0 (dl m.Α[i]!) from rfl,aF];refine MZ ?_;intros;refine Y.ca (uk br (dl m.Α[i]!) _ hI c3 D ah) ?_;rintro _ _⟨I7,M5,rfl,rfl⟩;obtain⟨l,c5⟩:∃l,m.Α[i]! = l:=⟨_,rfl⟩;rw[c5] at c0 hI c1 a9 ⊢;refine MZ ?_;intros;rename_i b8;have e0:(dl l)[Int.toNat 0]! = l.d:=rfl;have e1:(dl l)[Int.toNat 1]! = l.fr:=rfl;have e2:(dl l)[Int.toNat 2]! = l.ts:=rfl;have e3:(dl l)[Int.toNat 3]! = l.to:=rfl;simp only[e0,e1,e2,e3];refine Β.loop (α:=Nat×OA×Nat) (λg=>g.1<=l.am.length) (λg=>[(2,ay a2),(4,ay br),(5,ay bc),(6,K (m.Α.length:Int)),(30,K (m.Α.length:Int)),(31,K (i:Int)),(7,ae I7 (dl l).length M5),(8,ay b8),(9,K (4+2*(g.1:Int)))]) (λg=>obj b8 Pv [K l.d,K l.fr,K l.ts,K l.to,ae g.2.1 (l.am.take g.1).length g.2.2]::μ eh 2 Qh g.2.1 g.2.2 (l.am.take g.1)::μ (eU .i64) 1 C3 I7 M5 (dl l)::Oh br ((m.Α.drop (i+1)).flatMap (λl=>Nx (dl l))++Nx m.Μ) 0::obj bc Oo [K m.Ζ,K m.r,K m.ai,.bool m.yes,ae bD vs.length id,ae none 0 0]::μ aZ 5 Pv bD id vs::η ms vs::obj a2 Oo [K 0,K 0,K 0,.bool false,ae none 0 0,ae none 0 0]::L) (λg=>l.am.length - g.1) (0,none,0) D aG ?_ ?_
 .dsimp only;rw[bA,bq];refine(E.c8 eh 2 Qh).trans ?_;exact aj
 rintro⟨j,a3,A⟩ hj;dsimp only at hj ⊢;have d0:(l.am.take j).length=j:=by rw[aP];omega
 by_cases a6:j<l.am.length
 case neg =>
  have c4:j=l.am.length:=D;subst c4;rw[cK] at d0 ⊢;refine MZ ?_;intros;refine Y.ef (Ef.a8 (Η:=aZ) (e:=(⟨l,a3,A⟩:MT)) rfl rfl rfl rfl rfl aY (li _) D D) ac ?_;rintro _ _⟨a4,J,rfl,rfl⟩;refine MZ ?_;intros;refine⟨(i+1,vs++[⟨l,a3,A⟩],a4,J),⟨D,by grind [aB]⟩,D,?_,?_⟩
  .dsimp only;rw[bJ i];exact aG
  .dsimp only;refine(E.at (Φ:=μ eh 2 Qh a3 A l.am) E.NZ).trans ?_;refine E.trans (hx:=ms ⟨l,a3,A⟩::η ms vs::μ aZ 5 Pv a4 J (vs++[⟨l,a3,A⟩])::Oh br ((m.Α.drop (i+1)).flatMap (λl=>Nx (dl l))++Nx m.Μ) 0::obj bc Oo [K m.Ζ,K m.r,K m.ai,.bool m.yes,ae a4 (vs++[(⟨l,a3,A⟩:MT)]).length J,ae none 0 0]::obj a2 Oo [K 0,K 0,K 0,.bool false,ae none 0 0,ae none 0 0]::L) aj ?_;exact(E.d7 (f:=ms) fx).trans (E.swap.trans ((E.c9 (f:=ms) fx).trans aj))
 obtain⟨q1,q2⟩:=Gt a6;have i1:(4+2*(j:Int)).toNat=4+2*j:=D;have i2:(4+2*(j:Int)+1).toNat=4+2*j+1:=D;have c2:l.am.take (j+1)=l.am.take j++[((dl l)[(4+2*(j:Int)).toNat]!,(dl l)[(4+2*(j:Int)+1).toNat]!)]:=by rw[i1,i2,q1,q2,aB a6,E7 a6]
 refine MZ ?_;intros;refine δ.ef (Ef.a8 (Η:=eh) (e:=((dl l)[(4+2*(j:Int)).toNat]!,(dl l)[(4+2*(j:Int)+1).toNat]!)) rfl rfl rfl rfl rfl aY (mf _) D D) ac ?_;rintro _ _⟨a4,J,rfl,rfl⟩;rw[<-c2];refine MZ ?_;intros;refine⟨(j+1,a4,J),by dsimp only;omega,D,?_,by exact aj⟩;dsimp only;rw[show(4+2*((j+1:Nat):Int))=4+2*(j:Int)+2 by omega];exact aG
