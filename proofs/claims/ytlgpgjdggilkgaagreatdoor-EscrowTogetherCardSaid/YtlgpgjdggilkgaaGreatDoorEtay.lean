/- Lemmas. -/
import Derived.Test.YtlgpgjdggilkgaaGreatDoorEtax
set_option linter.all false
set_option maxHeartbeats 4000000
namespace Go.Proofs.YtlgpgjdggilkgaaGreatDoor
section
open Go.V
abbrev N6:Nat:=197
abbrev Oe:Nat:=155
structure hy where
 Υ:lu
 ω:Int
 state:Int
 Κ:List Int
 deriving Inhabited,DecidableEq
structure E9 where
 Υ:Nl
 ω:Int
 state:Int
 Κ:List Int
 C3:OA
 F1:Nat
 deriving Inhabited
def E9.m(o:E9):hy:=⟨o.Υ.m,o.ω,o.state,o.Κ⟩
def dz(o:E9):τ:=[J o.Υ.m.d,J o.Υ.m.fr,J o.Υ.m.ts,J o.Υ.m.to,ah o.Υ.ad o.Υ.m.am.length o.Υ.cap,J o.ω,J o.state,ah o.C3 o.Κ.length o.F1]
def Hj(o:E9):∀u∈dz o,u.oneCell' = true:=by simp[dz,Value.oneCell']
def I9(o:E9):HP:=SC (iJ o.Υ) (ξ (dJ .i64) 1 o.C3 o.Κ)
def pH(o:E9):Om (I9 o):=Om.and (fB _) (cQ _ _ _ _)
def Gm{o:E9}{L:Η}:F (I9 o::L) (iJ o.Υ::ξ (dJ .i64) 1 o.C3 o.Κ::L):=F.UJ
def Rk(o:hy):Prop:=lR o.Υ/\vi o.ω/\o.Κ.length<=1000/\∀f∈o.Κ,vi f
def fF(d A:Int)(o:hy):eU:=⟨d,o.Υ.ts,⟨5,A,o.ω,false,[o.Υ],o.Κ⟩⟩
def ni{A:Int}{o:hy}(B:vi A)(h:Rk o):O7 (⟨5,A,o.ω,false,[o.Υ],o.Κ⟩:G3):=by
 obtain⟨K,T,h3,h4⟩:=h;exact⟨⟨by dsimp only;unfold vi;omega,B,T⟩,by simp,λl U=>by rw[F6 U];exact K,h3,h4⟩
attribute [local irreducible] Α GO GP δ ms GF GE Ev Ef C0 F CB GB V.Enters
abbrev Ep:=Za [.ev 6,.ef 7,.ef 8]
def fc{φ ψ:Prop}(k:ψ)(h:Hid ψ->φ:=by intro k;(with_reducible apply Α.a8);first|refine Α.dr 31 2 Ep (Hid.out k)):φ:=h ⟨k⟩
def Tu{φ ψ:Prop}(k:ψ)(h:Hid ψ->φ:=by intro k;(repeat (first|refine ab ?_|intro B6|refine fc ?_));(repeat revert B6);exact Hid.out k):φ:=h ⟨k⟩
def qe{L:Η}(nb lb:Nat)(d G μ U:Int)(mb mp mr:Nat)(A:Int)(B:vi A)(pad:OA)(hA:uV pad)(os:List E9)[hr:F2 L pad E9 dz 8 os](i:Nat)(hi:i<os.length)(o:E9)(ho:os[i]! = o)(M:Rk o.m) :
  Τ Θ 98 #[av nb,J A,.pointer (Pb pad 8 i 0)] (obj nb C4 (gL lb d G μ U mb mp mr)::I9 o::L) (λv Γ=>∃x:OD,v=bF (bq x)/\x.m=fF d A o.m/\Γ = gM x::obj nb C4 (gL lb d G μ U mb mp mr)::I9 o::L):=by
 subst ho;refine Τ.bd ?_;refine Α.cL (F.at (Ο:=I9 os[i]!) ((F.dup (pH os[i]!).RQ).trans Gm)) ?_;simp only[gL];repeat first|refine Α.sn 1 ?_|refine dA ?_|intro _|refine fc ?_
 rename_i b6;refine Α.c7 (α:=Nat×Nat) (λ_=>True) (λz=>[(0,av nb),(1,J A),(2,.pointer (Pb pad 8 i 0)),(6,av b6),(7,.pointer (some ⟨z.2,0,none⟩))]) (λz=>obj z.2 OM [J 5,J A,J os[i]!.ω,.bool false,ah (some ⟨z.1,0,none⟩) 1 1,ah os[i]!.C3 os[i]!.Κ.length os[i]!.F1]::obj z.1 PT (aZ os[i]!.Υ)::obj b6 B1 [J 0,J 0,ah none 0 0]::iJ os[i]!.Υ::ξ (dJ .i64) 1 os[i]!.C3 os[i]!.Κ::I9 os[i]!::obj nb C4 [av lb,J d,J G,J μ,J U,.map (some mb),.map (some mp),.map (some mr)]::L) ?_ ?_
 .refine Α.f5 mixed Ζ ?_;refine GF.M8 (i:=0) rfl Ζ (Ev.move rfl) ae ?_;refine GF.M8 (i:=1) rfl Ζ (Ev.move rfl) ae ?_;refine GF.M8 (i:=2) rfl Ζ (by first|exact Ev.nilCheck rfl|exact Ev.c7 rfl hA) ae ?_;refine GF.Ob (i:=3) rfl Ζ (by first|exact Ev.fieldAddr rfl|exact Ev.d7 rfl D|exact Ev.f7 rfl) ae ?_;refine GF.Ob (i:=4) rfl Ζ (by first|exact Ev.d8 rfl rfl|exact Ev.c9 rfl bh|exact Ev.c8 rfl rfl|exact Ev.d9 rfl D|exact Ev.f9 rfl D rfl|exact Ev.f5 rfl D ae rfl) ae ?_;refine GF.M8 (i:=5) rfl Ζ (Ev.move rfl) ae ?_;refine GF.M8 (i:=6) rfl Ζ (by first|exact Ev.nilCheck rfl|exact Ev.c7 rfl hA) ae ?_;refine GF.Ob (i:=7) rfl Ζ (by first|exact Ev.fieldAddr rfl|exact Ev.d7 rfl D|exact Ev.f7 rfl) ae ?_;refine GF.Ob (i:=8) rfl Ζ (by first|exact Ev.d8 rfl rfl|exact Ev.c9 rfl bh|exact Ev.c8 rfl rfl|exact Ev.d9 rfl D|exact Ev.f9 rfl D rfl|exact Ev.f5 rfl D ae rfl) ae ?_;refine GF.M8 (i:=10) rfl Ζ (Ev.move rfl) ae ?_;refine GF.M8 (i:=11) rfl Ζ (by first|exact Ev.nilCheck rfl|exact Ev.c7 rfl hA) ae ?_;refine GF.Ob (i:=12) rfl Ζ (by first|exact Ev.fieldAddr rfl|exact Ev.d7 rfl D|exact Ev.f7 rfl) ae ?_;refine GF.Ob (i:=13) rfl Ζ (by first|exact Ev.d8 rfl rfl|exact Ev.c9 rfl bh|exact Ev.c8 rfl rfl|exact Ev.d9 rfl D|exact Ev.f9 rfl D rfl|exact Ev.f5 rfl D ae rfl) ae ?_;refine GF.a8 9 15 Ζ ?_ ?_
  .refine GE.ef rfl (Ef.lit rfl rfl ae bh) ae ?_;rintro _ _⟨bl,rfl,rfl⟩;refine⟨(by intro pe hp;simp only[fI,aG,or_false] at hp;rcases hp with rfl|rfl|rfl|rfl|rfl|rfl<;>first|exact Ev.fieldAddr rfl|exact Ev.d7 rfl D|exact Ev.d8 rfl rfl|exact Ev.c9 rfl bh|exact Ev.c8 rfl rfl|exact Ev.d9 rfl D|exact Ev.f9 rfl D rfl|exact Ev.f5 rfl D ae rfl),?_⟩;refine GF.wk [.ev 14,.ef 15,.ef 16] Ζ rfl ?_;refine Tu ?_;intros;repeat first|with_reducible apply ms.nil|((with_reducible apply ms.a8);first|refine ms.drop rfl ?_|refine ms.keep (by first|exact Ev.d8 rfl rfl|exact Ev.fieldAddr rfl|exact Ev.d7 rfl D|exact Ev.f9 rfl D rfl|exact Ev.f5 rfl D ae rfl) ?_)
   refine Tu ?_;intros;rename_i bc;exact⟨(bl,bc),trivial,aD,by exact ak⟩
  .refine GE.ef rfl Ef.alloc ae ?_;rintro _ _⟨bc,rfl,rfl⟩;refine⟨(by intro pe hp;simp only[fI,aG,or_false] at hp;rcases hp with rfl|rfl|rfl|rfl|rfl|rfl<;>first|exact Ev.fieldAddr rfl|exact Ev.d7 rfl D|exact Ev.d8 rfl rfl|exact Ev.c9 rfl bh|exact Ev.c8 rfl rfl|exact Ev.d9 rfl D|exact Ev.f9 rfl D rfl|exact Ev.f5 rfl D ae rfl),?_⟩;refine GF.wk [.ef 9,.ev 14,.ef 16] Ζ rfl ?_;refine Tu ?_;intros;repeat first|with_reducible apply ms.nil|((with_reducible apply ms.a8);first|refine ms.drop rfl ?_|refine ms.keep (by first|exact Ev.d8 rfl rfl|exact Ev.fieldAddr rfl|exact Ev.d7 rfl D|exact Ev.f9 rfl D rfl|exact Ev.f5 rfl D ae rfl) ?_)
   refine Tu ?_;intros;rename_i bl;exact⟨(bl,bc),trivial,aD,by exact ak⟩
 rintro⟨bl,bc⟩ _;dsimp only;have hc:O7 (⟨5,A,os[i]!.ω,false,[os[i]!.Υ.m],os[i]!.Κ⟩:G3):=ni B M;refine Α.cL (Γ:=M9 ⟨5,A,os[i]!.ω,false,[os[i]!.Υ],some ⟨bl,0,none⟩,1,os[i]!.Κ,os[i]!.C3,os[i]!.F1⟩::obj bc OM [J 5,J A,J os[i]!.ω,.bool false,ah (some ⟨bl,0,none⟩) 1 1,ah os[i]!.C3 os[i]!.Κ.length os[i]!.F1]::obj b6 B1 [J 0,J 0,ah none 0 0]::I9 os[i]!::obj nb C4 [av lb,J d,J G,J μ,J U,.map (some mb),.map (some mp),.map (some mr)]::L) ?_ ?_
 .refine(F.at (Ο:=obj bl PT (aZ os[i]!.Υ)) (F.d9 (Ε:=aZ) (sz:=5) (I:=[os[i]!.Υ]) (n:=1) (by simp only[aT,cY,aI]) rfl (by intro x O;rfl) ae)).trans ?_;refine F.N9.trans ?_;refine(F.at (Ο:=iJ os[i]!.Υ) (F.d7 (f:=iJ) fB)).trans ?_;refine F.trans (fG:=ξ aZ 5 (some ⟨bl,0,none⟩) [os[i]!.Υ]::SC (Ψ iJ [os[i]!.Υ]) (ξ (dJ .i64) 1 os[i]!.C3 os[i]!.Κ)::_) ?_ (F.f9 (cQ _ _ _ _) (Om.and (fi fB) (cQ _ _ _ _)));refine F.trans (fG:=Ψ iJ [os[i]!.Υ]::ξ (dJ .i64) 1 os[i]!.C3 os[i]!.Κ::ξ aZ 5 (some ⟨bl,0,none⟩) [os[i]!.Υ]::_) ak ?_;exact(F.f9 (fi fB) (cQ _ _ _ _)).trans F.swap
 refine Tu ?_;intros;refine δ.M8 (Ev.c7 rfl hA) ae ?_;refine Tu ?_;intros;refine δ.cL (Γ:=obj nb C4 [av lb,J d,J G,J μ,J U,.map (some mb),.map (some mp),.map (some mr)]::M9 ⟨5,A,os[i]!.ω,false,[os[i]!.Υ],some ⟨bl,0,none⟩,1,os[i]!.Κ,os[i]!.C3,os[i]!.F1⟩::(obj b6 B1 [J 0,J 0,ah none 0 0]::I9 os[i]!::L)) ak ?_;refine δ.ca (fy nb lb d G μ U mb mp mr os[i]!.Υ.m.ts ⟨5,A,os[i]!.ω,false,[os[i]!.Υ],some ⟨bl,0,none⟩,1,os[i]!.Κ,os[i]!.C3,os[i]!.F1⟩ hc) ?_;rintro _ _⟨y,rfl,Y,rfl⟩;simp only[gL];refine Tu ?_;intros;exact KX.a8 (by exact C7.cell rfl bh (C7.nil)) ak ⟨y,rfl,Y,rfl⟩
end
section
open Go.V
def B2(f t:Int)(am:List (Int×Int)):List A8:=am.map λa=>⟨f,t,a.1,a.2,[]⟩
def kn(f t:Int)(am:List (Int×Int)):(NM f t am).map J3.m=B2 f t am:=by unfold NM B2;rw[co];rfl
theorem gV(f t:Int):∀am:List (Int×Int),C5 (B2 f t am)=am.length
 | []=>rfl
 | a::am=>by
  have h:=gV f t am;show(0+1)+C5 (B2 f t am)=am.length+1;omega
def H7(Δ E:Int)(Q:List A8):D6:=⟨0,Δ,0,E,-1,0,Q⟩
def Mt(Δ E:Int)(Q:List J3)(fH:OA)(iI:Nat):(Od Δ E Q fH iI).m=H7 Δ E (Q.map J3.m):=rfl
noncomputable def E6(S:Ρ)(Δ E:Int)(Q:List A8):Bool:=dB ((E2 S (H7 Δ E Q)).1=0)
noncomputable def Ny(S:Ρ)(Δ E:Int)(Q:List A8):List Int:=if(E2 S (H7 Δ E Q)).1=0 then km S (H7 Δ E Q) else[]
noncomputable abbrev L4(S:Ρ)(Δ E:Int)(Q:List A8):Ρ:=bM S (H7 Δ E Q)
def mY{S:Ρ}{Δ E:Int}{Q:List A8}(h:E6 S Δ E Q=false):L4 S Δ E Q=S:=Ν (λq=>by unfold E6 at h;rw[bN q] at h;cases h)
theorem zM{d:Int}{c:B0}{k:Nat}{S:Ρ}(hS:Oc d c k S){Δ E:Int}{Q:List A8}(hk:k+C5 Q<=2000)(h:E6 S Δ E Q=true):(Ny S Δ E Q).length=Q.length/\Q.length<=64:=by
 have he:(E2 S (H7 Δ E Q)).1=0:=by
  refine Classical.byContradiction λq=>?_;unfold E6 at h;rw[bB q] at h;cases h
 obtain⟨_,B,a2⟩:=tw (s:=H7 Δ E Q) hS.a hk he;have M:Q.length<=64:=B.2.2.2.1.2;grind [Ny,km,bM,H7,fC]
def Hf{d:Int}{c:B0}{k:Nat}{S:Ρ}(hS:Oc d c k S){Δ E:Int}{Q:List A8}(hk:k+C5 Q<=2000):∀f∈Ny S Δ E Q,vi f:=by
 intro f hf;unfold Ny at hf;split at hf
 .unfold km at hf;obtain⟨g,hg,rfl⟩:=H9 hf;have B:=eM hg;obtain⟨j,hj,rfl⟩:=List.getElem_of_mem B;have hA:=(hS.post (H7 Δ E Q) hk).a;have K:=(hA.fn j hj).1;rw[D7 hj] at K;have T:=hA.g.Κ;have h3:=hA.g.D9;have h4:=hA.g.D8;unfold vi;omega
 .cases hf
attribute [local irreducible] Α GO GP δ ms GF GE Ev Ef C0 F CB GB V.Enters
theorem jy{L:Η}(nb lb:Nat)(d G μ U:Int)(mb mp mr:Nat)(c:B0)(k:Nat)(S:Ρ)(hS:Oc d c k S)(Δ E:Int)(Q:List J3)(fH:OA)(iI:Nat)(hs:Sl (Od Δ E Q fH iI))(hk:k+C5 (Q.map J3.m)<=2000) :
  Τ Θ 146 #[av nb,J Δ,J E,ah fH Q.length iI] (Ω cu 5 OY fH iI Q::Ψ Ns Q::obj nb C4 (gL lb d G μ U mb mp mr)::aU lb S::L) (λv Γ=>∃C3 F1,v=.tuple #[ah C3 (Ny S Δ E (Q.map J3.m)).length F1,.bool (E6 S Δ E (Q.map J3.m))]/\Γ = Ω (dJ .i64) 1 B7 C3 F1 (Ny S Δ E (Q.map J3.m))::obj nb C4 (gL lb d G μ U mb mp mr)::aU lb (L4 S Δ E (Q.map J3.m))::L):=by
 have M:Sl (Od Δ E [] none 0):=⟨hs.kd,aC _,hs.K9,λm hm=>hD hm aG,λm hm=>hD hm aG,λm hm=>hD hm aG⟩;refine Τ.f5 (φ:=Q.length<=iI) (ur (L:=[]) nb lb d G μ U mb mp mr c k S hS Δ E [] none 0 M (an _) (by show k+0<=2000;omega)).enters (λθ R w s=>(mW (ad:=fH) (I:=Q) θ R w s).1) λB=>?_;have h:=ur (L:=L) nb lb d G μ U mb mp mr c k S hS Δ E Q fH iI hs B hk;simp only[Mt] at h;refine(h.pre (L:=Ω cu 5 OY fH iI Q::Ψ Ns Q::obj nb C4 (gL lb d G μ U mb mp mr)::aU lb S::L) ?_).Rs ?_
 .refine F.N9.trans ?_;exact ak
 rintro v Γ (⟨K,C3,F1,rfl,rfl⟩|⟨K,rfl,rfl⟩)
 .refine⟨_,⟨C3,F1,?_,rfl⟩,?_⟩
  .grind [Ny,E6,bN]
  .unfold Ny;rw[Χ K];exact ak
 .refine⟨_,⟨none,0,?_,rfl⟩,?_⟩
  .grind [Ny,E6,bB]
  .unfold Ny L4 bM;rw[Ν K,Ν K];refine(F.c8 (dJ .i64) 1 B7).trans ?_;exact ak
noncomputable def bV(d A bI Ι E:Int)(o:hy)(S:Ρ):List eU×hy×Ρ :=
 if o.state≠0 then([],o,S)
 else if bI=1/\o.Υ.ts≠d then
  if E6 S 6 E (B2 Ι 0 o.Υ.am)=true then([fF d A { o with state:=1,Κ:=Ny S 6 E (B2 Ι 0 o.Υ.am) }],{ o with state:=1,Κ:=Ny S 6 E (B2 Ι 0 o.Υ.am) },L4 S 6 E (B2 Ι 0 o.Υ.am)) else([],o,S)
 else if E6 S 2 E (B2 Ι (if bI=2 then o.Υ.fr else o.Υ.to) o.Υ.am)=true then([],{ o with state:=2 },L4 S 2 E (B2 Ι (if bI=2 then o.Υ.fr else o.Υ.to) o.Υ.am)) else([],o,S)
structure J5 where
 b:Nat
 state:Int
 Ι:Int
 Z:List E9
 bG:OA
 hx:Nat
 deriving Inhabited
def OE(p:J5):τ:=[J p.state,J p.Ι,ah p.bG p.Z.length p.hx]
structure NF where
 state:Int
 Ι:Int
 Z:List hy
 deriving Inhabited,DecidableEq
def J5.m(p:J5):NF:=⟨p.state,p.Ι,p.Z.map E9.m⟩
theorem jU{d A bI Ι E:Int}{o:hy}{S:Ρ}(h:o.state≠0):bV d A bI Ι E o S=([],o,S):=Χ h
theorem kD{d A bI Ι E:Int}{o:hy}{S:Ρ}(h:o.state=0)(hB:bI=1/\o.Υ.ts≠d):bV d A bI Ι E o S=if E6 S 6 E (B2 Ι 0 o.Υ.am)=true then([fF d A { o with state:=1,Κ:=Ny S 6 E (B2 Ι 0 o.Υ.am) }],{ o with state:=1,Κ:=Ny S 6 E (B2 Ι 0 o.Υ.am) },L4 S 6 E (B2 Ι 0 o.Υ.am)) else([],o,S):=by
 grind [bV]
theorem jb{d A bI Ι E to:Int}{o:hy}{S:Ρ}(h:o.state=0)(hB:¬(bI=1/\o.Υ.ts≠d))(ht:to=if bI=2 then o.Υ.fr else o.Υ.to):bV d A bI Ι E o S=if E6 S 2 E (B2 Ι to o.Υ.am)=true then([],{ o with state:=2 },L4 S 2 E (B2 Ι to o.Υ.am)) else([],o,S):=by
 grind [bV]
theorem mU{α:Type}[Inhabited α]{l:List α}{i:Nat}(h:i<l.length):l.set i l[i]! = l:=by
 grind [eC]
theorem JL{α:Type}[Inhabited α]{l:List α}{i:Nat}(h:i<l.length)(x:α):(l.set i x)[i]! = x:=by
 grind
theorem F.j7{α:Type}{f:α->HP}(hf:∀x,Om (f x)){l:List α}{i:Nat}{x:α}{L:Η}:F (f x::Ψ f l::L) (Ψ f (l.set i x)::L) :=
 (F.j6 hf).trans (F.g8 aj)
def F.j9{L:Η}(f t:Int):∀am:List (Int×Int),F L (Ψ Ns (NM f t am)::L)
 | []=>F.a8 Ns
 | a::am=>(F.j9 f t am).trans ((F.f5 aL 3 none).trans (F.j6 (f:=Ns) (x:=V2 f t a.1 a.2) ku))
theorem nJ(Δ E f t:Int)(kd:PF Δ)(am:List (Int×Int))(h:am.length<=1000)(fH:OA)(iI:Nat):Sl (Od Δ E (NM f t am) fH iI):=by
 have hm:∀m∈NM f t am,m.m.Β=[]:=λm hm=>by
  obtain⟨a,_,rfl⟩:=H9 hm;rfl
 refine⟨kd,?_,by show vi (-1);unfold vi;omega,λm K=>?_,λm K=>?_,λm K p hp=>?_⟩
 .show(NM f t am).length<=1000000;grind [NM]
 .rw[hm m K];grind
 .rw[hm m K];grind
 .rw[hm m K] at hp;cases hp
abbrev Eo:=Ze []
abbrev Em:=Zc [.ev 10,.ef 11,.ef 12,.ev 13,.ev 14,.ev 15,.ev 16,.ev 17]
abbrev Bx:=Zc [.ev 10,.ev 11,.ef 12,.ef 13,.ev 14,.ev 15,.ev 16,.ev 17,.ev 18]
def TB{φ ψ:Prop}(k:ψ)(h:Hid ψ->φ:=by intro k;(repeat (first|refine ab ?_|intro B6|refine Α.dr 104 3 Eo ?_|refine Α.dr 104 4 Em ?_|refine Α.dr 104 12 Bx ?_));(repeat revert B6);exact Hid.out k):φ:=h ⟨k⟩
theorem mZ{L:Η}(nb lb:Nat)(d G μ U:Int)(mb mp mr:Nat)(c:B0)(k:Nat)(S:Ρ)(hS:Oc d c k S)(A:Int)(b0:vi A)(pb:Nat)(bI Ι:Int)(bG:OA)(hx:Nat)(hA:uV bG)(os:List E9)(i:Nat)(hi:i<os.length)(a4:Rk os[i]!.m)(E:Int)(hk:os[i]!.state=0->k+os[i]!.Υ.m.am.length<=2000) :
  Τ Θ 97 #[av nb,J A,av pb,.pointer (Pb bG 8 i 0),J E] (obj nb C4 (gL lb d G μ U mb mp mr)::obj pb Oe (OE ⟨pb,bI,Ι,os,bG,hx⟩)::Ω dz 8 N6 bG hx os::Ψ I9 os::aU lb S::L) (λv Γ=>∃ad cap Q o',v=ah ad Q.length cap/\(Q.map (·.m),o'.m,(bV d A bI Ι E os[i]!.m S).2.2)=bV d A bI Ι E os[i]!.m S/\Γ = Ω bq 3 B1 ad cap Q::Ψ gM Q::obj nb C4 (gL lb d G μ U mb mp mr)::obj pb Oe (OE ⟨pb,bI,Ι,os,bG,hx⟩)::Ω dz 8 N6 bG hx (os.set i o')::Ψ I9 (os.set i o')::aU lb ((bV d A bI Ι E os[i]!.m S).2.2)::L):=by
 have a3:os[i]!.Υ.m.am.length<=1000:=by have:=a4.1.2.1;simp only[E9.m] at this;omega
 have B:os[i]!∈os:=by rw[D7 hi];exact aj
 refine Τ.bd ?_;refine Α.cL (F.at (Ο:=Ψ I9 os) ((F.d8 B).trans Gm)) ?_;simp only[gL,OE];refine TB ?_;intros;refine GO.ev (Ev.c7 rfl hA) ae ?_;by_cases h0:os[i]!.state=0
 case neg =>
  have hW:=jU (d:=d) (A:=A) (bI:=bI) (E:=E) (Ι:=Ι) (S:=S) (o:=os[i]!.m) h0;refine TB ?_;intros;rw[hW];refine KX.a8 aF ?_ ⟨none,0,[],os[i]!,rfl,rfl,rfl⟩;rw[mU hi];exact(F.c8 bq 3 B1).trans ((F.a8 gM).trans ak)
 replace hk:=hk h0;by_cases b1:bI=1
 .by_cases a7:os[i]!.Υ.m.ts=d
  .have hB:¬(bI=1/\os[i]!.m.Υ.ts≠d):=λq=>q.2 a7;refine TB ?_;intros;refine δ.M8 (Ev.c7 rfl hA) ae ?_;refine TB ?_;intros;refine GO.ev (Ev.c7 rfl hA) ae ?_;have a2:¬bI=2:=D;refine TB ?_;intros;refine δ.M8 (Ev.c7 rfl hA) ae ?_;refine TB ?_;intros;refine δ.ca (jB os[i]!.Υ.ad _ _ os[i]!.Υ.m.am rfl a3 Ι os[i]!.Υ.m.to) ?_;rintro _ _⟨fH,iI,rfl,rfl⟩;refine TB ?_;intros;refine δ.cL (Γ:=Ω cu 5 OY fH iI (NM Ι os[i]!.Υ.m.to os[i]!.Υ.m.am)::Ψ Ns (NM Ι os[i]!.Υ.m.to os[i]!.Υ.m.am)::obj nb C4 [av lb,J d,J G,J μ,J U,.map (some mb),.map (some mp),.map (some mr)]::aU lb S::(iJ os[i]!.Υ::ξ (dJ .i64) 1 os[i]!.C3 os[i]!.Κ::obj pb Oe [J bI,J Ι,ah bG os.length hx]::Ω dz 8 N6 bG hx os::Ψ I9 os::L)) ((F.j9 Ι os[i]!.Υ.m.to os[i]!.Υ.m.am).trans ak) ?_;refine δ.ca (jy nb lb d G μ U mb mp mr c k S hS 2 E (NM Ι os[i]!.Υ.m.to os[i]!.Υ.m.am) fH iI (nJ _ _ _ _ (by unfold PF;omega) _ a3 _ _) (by rw[kn,gV];exact hk)) ?_;rw[kn];rintro _ _⟨C3,F1,rfl,rfl⟩;simp only[gL];cases Pn:E6 S 2 E (B2 Ι os[i]!.Υ.m.to os[i]!.Υ.m.am)
   .have hW:=jb (d:=d) (A:=A) (bI:=bI) (E:=E) (Ι:=Ι) (S:=S) (to:=os[i]!.Υ.m.to) (o:=os[i]!.m) h0 hB (by rw[Ν a2];rfl);rw[Ν (by rw[show B2 Ι os[i]!.Υ.m.to os[i]!.m.Υ.am=B2 Ι os[i]!.Υ.m.to os[i]!.Υ.m.am from rfl,Pn];exact fo)] at hW;have M:=mY Pn;rw[M];refine TB ?_;intros;rw[hW];refine KX.a8 aF ?_ ⟨none,0,[],os[i]!,rfl,rfl,rfl⟩;rw[mU hi];refine(F.c8 bq 3 B1).trans ((F.a8 gM).trans ?_);exact ak
   .have hW:=jb (d:=d) (A:=A) (bI:=bI) (E:=E) (Ι:=Ι) (S:=S) (to:=os[i]!.Υ.m.to) (o:=os[i]!.m) h0 hB (by rw[Ν a2];rfl);rw[Χ (by exact Pn)] at hW;refine TB ?_;intros;refine GO.ev (Ev.c7 rfl hA) ae ?_;refine TB ?_;intros;refine GO.NH (Ef.d7 (Ε:=dz) (e:=(⟨os[i]!.Υ,os[i]!.ω,2,os[i]!.Κ,os[i]!.C3,os[i]!.F1⟩:E9)) rfl rfl rfl rfl hi ae) ?_;rintro _ _ rfl;refine TB ?_;intros;rw[hW];refine KX.a8 aF ?_ ⟨none,0,[],(⟨os[i]!.Υ,os[i]!.ω,2,os[i]!.Κ,os[i]!.C3,os[i]!.F1⟩:E9),rfl,rfl,rfl⟩;refine(F.c8 bq 3 B1).trans ((F.a8 gM).trans ?_);refine(F.at (Ο:=Ψ I9 os) ((F.d8 B).trans (F.j7 (f:=I9) (x:=(⟨os[i]!.Υ,os[i]!.ω,2,os[i]!.Κ,os[i]!.C3,os[i]!.F1⟩:E9)) (i:=i) pH))).trans ?_;dsimp only[E9.m];exact ak
  .have hB:bI=1/\os[i]!.m.Υ.ts≠d:=⟨b1,a7⟩;refine TB ?_;intros;refine δ.M8 (Ev.c7 rfl hA) ae ?_;refine TB ?_;intros;refine δ.M8 (Ev.c7 rfl hA) ae ?_;refine TB ?_;intros;refine δ.ca (jB os[i]!.Υ.ad _ _ os[i]!.Υ.m.am rfl a3 Ι 0) ?_;rintro _ _⟨fH,iI,rfl,rfl⟩;refine TB ?_;intros;refine δ.cL (Γ:=Ω cu 5 OY fH iI (NM Ι 0 os[i]!.Υ.m.am)::Ψ Ns (NM Ι 0 os[i]!.Υ.m.am)::obj nb C4 [av lb,J d,J G,J μ,J U,.map (some mb),.map (some mp),.map (some mr)]::aU lb S::(iJ os[i]!.Υ::ξ (dJ .i64) 1 os[i]!.C3 os[i]!.Κ::obj pb Oe [J bI,J Ι,ah bG os.length hx]::Ω dz 8 N6 bG hx os::Ψ I9 os::L)) ((F.j9 Ι 0 os[i]!.Υ.m.am).trans ak) ?_;refine δ.ca (jy nb lb d G μ U mb mp mr c k S hS 6 E (NM Ι 0 os[i]!.Υ.m.am) fH iI (by grind [nJ,PF]) (by rw[kn,gV];exact hk)) ?_;rw[kn];rintro _ _⟨C3,F1,rfl,rfl⟩;simp only[gL];cases Pn:E6 S 6 E (B2 Ι 0 os[i]!.Υ.m.am)
   .have hW:=kD (d:=d) (A:=A) (bI:=bI) (E:=E) (Ι:=Ι) (S:=S) (o:=os[i]!.m) h0 hB;rw[Ν (by rw[show B2 Ι 0 os[i]!.m.Υ.am=B2 Ι 0 os[i]!.Υ.m.am from rfl,Pn];grind)] at hW;have M:=mY Pn;rw[M];refine TB ?_;intros;rw[hW];refine KX.a8 aF ?_ ⟨none,0,[],os[i]!,rfl,rfl,rfl⟩;rw[mU hi];refine(F.c8 bq 3 B1).trans ((F.a8 gM).trans ?_);exact ak
   .have hW:=kD (d:=d) (A:=A) (bI:=bI) (E:=E) (Ι:=Ι) (S:=S) (o:=os[i]!.m) h0 hB;rw[Χ (by exact Pn)] at hW;refine TB ?_;intros;refine GO.ev (Ev.c7 rfl hA) ae ?_;refine TB ?_;intros;refine GO.NH (Ef.d7 (Ε:=dz) (e:=(⟨os[i]!.Υ,os[i]!.ω,1,os[i]!.Κ,os[i]!.C3,os[i]!.F1⟩:E9)) rfl rfl rfl rfl hi ae) ?_;rintro _ _ rfl;refine TB ?_;intros;refine GO.ev (Ev.c7 rfl hA) ae ?_;refine GO.ev (Ev.d7 rfl (by rw[bT];exact hi)) ae ?_;refine TB ?_;intros;refine GO.NH (Ef.d7 (Ε:=dz) (e:=(⟨os[i]!.Υ,os[i]!.ω,1,Ny S 6 E (B2 Ι 0 os[i]!.Υ.m.am),C3,F1⟩:E9)) rfl rfl (by rw[JL hi];rfl) rfl aj ae) ?_;rintro _ _ rfl;rw[List.set_set];have b2:=zM hS (by grind [gV]) Pn;have a9:=Hf hS (Δ:=6) (E:=E) (show k+C5 (B2 Ι 0 os[i]!.Υ.m.am)<=2000 by rw[gV];exact hk);generalize WL:(⟨os[i]!.Υ,os[i]!.ω,1,Ny S 6 E (B2 Ι 0 os[i]!.Υ.m.am),C3,F1⟩:E9)=e2 at *;have a5:Rk e2.m:=by rw[<-WL];exact⟨a4.1,a4.2.1,by show(Ny S 6 E (B2 Ι 0 os[i]!.Υ.m.am)).length<=1000;omega,a9⟩
    refine GO.cL (Γ:=Ω dz 8 N6 bG hx (os.set i e2)::Ψ I9 (os.set i e2)::I9 e2::obj nb C4 [av lb,J d,J G,J μ,J U,.map (some mb),.map (some mp),.map (some mr)]::aU lb (L4 S 6 E (B2 Ι 0 os[i]!.Υ.m.am))::obj pb Oe [J bI,J Ι,ah bG os.length hx]::L) ?_ ?_
    .refine(F.at (Ο:=Ω (dJ .i64) 1 B7 C3 F1 (Ny S 6 E (B2 Ι 0 os[i]!.Υ.m.am))) F.N9).trans ?_;refine F.trans (fG:=I9 e2::Ψ I9 os::Ω dz 8 N6 bG hx (os.set i e2)::obj nb C4 [av lb,J d,J G,J μ,J U,.map (some mb),.map (some mp),.map (some mr)]::aU lb (L4 S 6 E (B2 Ι 0 os[i]!.Υ.m.am))::obj pb Oe [J bI,J Ι,ah bG os.length hx]::L) ?_ ?_
     .refine F.trans (fG:=iJ os[i]!.Υ::ξ (dJ .i64) 1 C3 (Ny S 6 E (B2 Ι 0 os[i]!.Υ.m.am))::Ψ I9 os::Ω dz 8 N6 bG hx (os.set i e2)::obj nb C4 [av lb,J d,J G,J μ,J U,.map (some mb),.map (some mp),.map (some mr)]::aU lb (L4 S 6 E (B2 Ι 0 os[i]!.Υ.m.am))::obj pb Oe [J bI,J Ι,ah bG os.length hx]::L) ak ?_;rw[<-WL];exact F.f9 (fB _) (cQ _ _ _ _)
     .refine(F.dup (pH e2).RQ).trans ((F.c7 (F.j7 (f:=I9) (i:=i) pH)).trans ?_);exact ak
    refine TB ?_;intros;refine GO.cL (Γ:=obj nb C4 [av lb,J d,J G,J μ,J U,.map (some mb),.map (some mp),.map (some mr)]::I9 e2::(Ω dz 8 N6 bG hx (os.set i e2)::Ψ I9 (os.set i e2)::aU lb (L4 S 6 E (B2 Ι 0 os[i]!.Υ.m.am))::obj pb Oe [J bI,J Ι,ah bG os.length hx]::L)) ak ?_;refine GO.ca (qe nb lb d G μ U mb mp mr A b0 bG hA (os.set i e2) i aj e2 (JL hi e2) a5) ?_;rintro _ _⟨y,rfl,Y,rfl⟩;simp only[gL];refine TB ?_;intros;rename_i a6;rw[hW];refine KX.a8 aF ?_ ⟨some ⟨a6,0,none⟩,1,[y],e2,rfl,?_,rfl⟩
    .refine(F.at (Ο:=gM y) (F.d7 (f:=gM) fq)).trans ?_;refine(F.at (Ο:=obj a6 B1 [J y.m.Λ,J y.m.to,ah y.ad (Pc y.m.ct).length y.cap]) (F.d9 (Ε:=bq) (sz:=3) (I:=[y]) (n:=1) (by simp only[aT,cY,aI];rfl) rfl (by intro x O;rfl) ae)).trans ?_;dsimp only[E9.m];exact ak
    .rw[aq,bz,Y,<-WL];rfl
 .have hB:¬(bI=1/\os[i]!.m.Υ.ts≠d):=D;refine TB ?_;intros;refine GO.ev (Ev.c7 rfl hA) ae ?_;by_cases a2:bI=2
  .refine TB ?_;intros;refine GO.ev (Ev.c7 rfl hA) ae ?_;refine TB ?_;intros;refine δ.M8 (Ev.c7 rfl hA) ae ?_;refine TB ?_;intros;refine δ.ca (jB os[i]!.Υ.ad _ _ os[i]!.Υ.m.am rfl a3 Ι os[i]!.Υ.m.fr) ?_;rintro _ _⟨fH,iI,rfl,rfl⟩;refine TB ?_;intros;refine δ.cL (Γ:=Ω cu 5 OY fH iI (NM Ι os[i]!.Υ.m.fr os[i]!.Υ.m.am)::Ψ Ns (NM Ι os[i]!.Υ.m.fr os[i]!.Υ.m.am)::obj nb C4 [av lb,J d,J G,J μ,J U,.map (some mb),.map (some mp),.map (some mr)]::aU lb S::(iJ os[i]!.Υ::ξ (dJ .i64) 1 os[i]!.C3 os[i]!.Κ::obj pb Oe [J bI,J Ι,ah bG os.length hx]::Ω dz 8 N6 bG hx os::Ψ I9 os::L)) ((F.j9 Ι os[i]!.Υ.m.fr os[i]!.Υ.m.am).trans ak) ?_;refine δ.ca (jy nb lb d G μ U mb mp mr c k S hS 2 E (NM Ι os[i]!.Υ.m.fr os[i]!.Υ.m.am) fH iI (by grind [nJ,PF]) (by rw[kn,gV];exact hk)) ?_;rw[kn];rintro _ _⟨C3,F1,rfl,rfl⟩;simp only[gL];cases Pn:E6 S 2 E (B2 Ι os[i]!.Υ.m.fr os[i]!.Υ.m.am)
   .have hW:=jb (d:=d) (A:=A) (bI:=bI) (E:=E) (Ι:=Ι) (S:=S) (to:=os[i]!.Υ.m.fr) (o:=os[i]!.m) h0 hB (by rw[Χ a2];rfl);rw[Ν (by rw[show B2 Ι os[i]!.Υ.m.fr os[i]!.m.Υ.am=B2 Ι os[i]!.Υ.m.fr os[i]!.Υ.m.am from rfl,Pn];grind)] at hW;have M:=mY Pn;rw[M];refine TB ?_;intros;rw[hW];refine KX.a8 aF ?_ ⟨none,0,[],os[i]!,rfl,rfl,rfl⟩;rw[mU hi];refine(F.c8 bq 3 B1).trans ((F.a8 gM).trans ?_);exact ak
   .have hW:=jb (d:=d) (A:=A) (bI:=bI) (E:=E) (Ι:=Ι) (S:=S) (to:=os[i]!.Υ.m.fr) (o:=os[i]!.m) h0 hB (by rw[Χ a2];rfl);rw[Χ (by exact Pn)] at hW;refine TB ?_;intros;refine GO.ev (Ev.c7 rfl hA) ae ?_;refine TB ?_;intros;refine GO.NH (Ef.d7 (Ε:=dz) (e:=(⟨os[i]!.Υ,os[i]!.ω,2,os[i]!.Κ,os[i]!.C3,os[i]!.F1⟩:E9)) rfl rfl rfl rfl hi ae) ?_;rintro _ _ rfl;refine TB ?_;intros;rw[hW];refine KX.a8 aF ?_ ⟨none,0,[],(⟨os[i]!.Υ,os[i]!.ω,2,os[i]!.Κ,os[i]!.C3,os[i]!.F1⟩:E9),rfl,rfl,rfl⟩;refine(F.c8 bq 3 B1).trans ((F.a8 gM).trans ?_);refine(F.at (Ο:=Ψ I9 os) ((F.d8 B).trans (F.j7 (f:=I9) (x:=(⟨os[i]!.Υ,os[i]!.ω,2,os[i]!.Κ,os[i]!.C3,os[i]!.F1⟩:E9)) (i:=i) pH))).trans ?_;dsimp only[E9.m];exact ak
  .refine TB ?_;intros;refine δ.M8 (Ev.c7 rfl hA) ae ?_;refine TB ?_;intros;refine δ.ca (jB os[i]!.Υ.ad _ _ os[i]!.Υ.m.am rfl a3 Ι os[i]!.Υ.m.to) ?_;rintro _ _⟨fH,iI,rfl,rfl⟩;refine TB ?_;intros;refine δ.cL (Γ:=Ω cu 5 OY fH iI (NM Ι os[i]!.Υ.m.to os[i]!.Υ.m.am)::Ψ Ns (NM Ι os[i]!.Υ.m.to os[i]!.Υ.m.am)::obj nb C4 [av lb,J d,J G,J μ,J U,.map (some mb),.map (some mp),.map (some mr)]::aU lb S::(iJ os[i]!.Υ::ξ (dJ .i64) 1 os[i]!.C3 os[i]!.Κ::obj pb Oe [J bI,J Ι,ah bG os.length hx]::Ω dz 8 N6 bG hx os::Ψ I9 os::L)) ((F.j9 Ι os[i]!.Υ.m.to os[i]!.Υ.m.am).trans ak) ?_;refine δ.ca (jy nb lb d G μ U mb mp mr c k S hS 2 E (NM Ι os[i]!.Υ.m.to os[i]!.Υ.m.am) fH iI (nJ _ _ _ _ (by unfold PF;omega) _ a3 _ _) (by rw[kn,gV];exact hk)) ?_;rw[kn];rintro _ _⟨C3,F1,rfl,rfl⟩;simp only[gL];cases Pn:E6 S 2 E (B2 Ι os[i]!.Υ.m.to os[i]!.Υ.m.am)
   .have hW:=jb (d:=d) (A:=A) (bI:=bI) (E:=E) (Ι:=Ι) (S:=S) (to:=os[i]!.Υ.m.to) (o:=os[i]!.m) h0 hB (by rw[Ν a2];rfl);rw[Ν (by rw[show B2 Ι os[i]!.Υ.m.to os[i]!.m.Υ.am=B2 Ι os[i]!.Υ.m.to os[i]!.Υ.m.am from rfl,Pn];exact fo)] at hW;have M:=mY Pn;rw[M];refine TB ?_;intros;rw[hW];refine KX.a8 aF ?_ ⟨none,0,[],os[i]!,rfl,rfl,rfl⟩;rw[mU hi];refine(F.c8 bq 3 B1).trans ((F.a8 gM).trans ?_);exact ak
   .have hW:=jb (d:=d) (A:=A) (bI:=bI) (E:=E) (Ι:=Ι) (S:=S) (to:=os[i]!.Υ.m.to) (o:=os[i]!.m) h0 hB (by rw[Ν a2];rfl);rw[Χ (by exact Pn)] at hW;refine TB ?_;intros;refine GO.ev (Ev.c7 rfl hA) ae ?_;refine TB ?_;intros;refine GO.NH (Ef.d7 (Ε:=dz) (e:=(⟨os[i]!.Υ,os[i]!.ω,2,os[i]!.Κ,os[i]!.C3,os[i]!.F1⟩:E9)) rfl rfl rfl rfl hi ae) ?_;rintro _ _ rfl;refine TB ?_;intros;rw[hW];refine KX.a8 aF ?_ ⟨none,0,[],(⟨os[i]!.Υ,os[i]!.ω,2,os[i]!.Κ,os[i]!.C3,os[i]!.F1⟩:E9),rfl,rfl,rfl⟩;refine(F.c8 bq 3 B1).trans ((F.a8 gM).trans ?_);refine(F.at (Ο:=Ψ I9 os) ((F.d8 B).trans (F.j7 (f:=I9) (x:=(⟨os[i]!.Υ,os[i]!.ω,2,os[i]!.Κ,os[i]!.C3,os[i]!.F1⟩:E9)) (i:=i) pH))).trans ?_;dsimp only[E9.m];exact ak
