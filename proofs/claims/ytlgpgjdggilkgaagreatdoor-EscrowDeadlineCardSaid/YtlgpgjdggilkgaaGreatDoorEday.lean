/- Lemmas. -/
import Derived.Test.YtlgpgjdggilkgaaGreatDoorEdax
set_option linter.all false
set_option maxHeartbeats 4000000
namespace Go.Proofs.YtlgpgjdggilkgaaGreatDoor
section
open Go.V
abbrev NN:Nat:=197
abbrev NS:Nat:=155
structure hD where
 Χ:x4
 ai:Int
 state:Int
 Μ:List Int
 deriving Inhabited,DecidableEq
structure E9 where
 Χ:MT
 ai:Int
 state:Int
 Μ:List Int
 C4:OA
 F3:Nat
 deriving Inhabited
def E9.m(o:E9):hD:=⟨o.Χ.m,o.ai,o.state,o.Μ⟩
def dy(o:E9):χ:=[K o.Χ.m.d,K o.Χ.m.fr,K o.Χ.m.ts,K o.Χ.m.to,ae o.Χ.ad o.Χ.m.am.length o.Χ.cap,K o.ai,K o.state,ae o.C4 o.Μ.length o.F3]
def GZ(o:E9):∀u∈dy o,u.oneCell' = true:=by simp[dy,Value.oneCell']
def I9(o:E9):HP:=R5 (ms o.Χ) (τ (eU .i64) 1 o.C4 o.Μ)
def pC(o:E9):Og (I9 o):=Og.and (fx _) (cT _ _ _ _)
def Gg{o:E9}{L:Ι}:E (I9 o::L) (ms o.Χ::τ (eU .i64) 1 o.C4 o.Μ::L):=E.Uf
def QU(o:hD):Prop:=lP o.Χ/\xs o.ai/\o.Μ.length<=1000/\∀f∈o.Μ,xs f
def fI(d r:Int)(o:hD):fK:=⟨d,o.Χ.ts,⟨5,r,o.ai,false,[o.Χ],o.Μ⟩⟩
def mZ{r:Int}{o:hD}(A:xs r)(h:QU o):OL (⟨5,r,o.ai,false,[o.Χ],o.Μ⟩:G4):=by
 obtain⟨I,Q,h3,h4⟩:=h;exact⟨⟨by dsimp only;unfold xs;omega,A,Q⟩,by simp,λl T=>by rw[GO T];exact I,h3,h4⟩
attribute [local irreducible] Β Y GP δ vi GF GE Z Ef C0 E CB GB V.Enters
abbrev Em:=Ys [.ev 6,.ef 7,.ef 8]
def fg{φ ψ:Prop}(k:ψ)(h:Hid ψ->φ:=by intro k;(with_reducible apply Β.a8);first|refine Β.dr 31 2 Em (Hid.out k)):φ:=h ⟨k⟩
def Tb{φ ψ:Prop}(k:ψ)(h:Hid ψ->φ:=by intro k;(repeat (first|refine ab ?_|intro B8|refine fg ?_));(repeat revert B8);exact Hid.out k):φ:=h ⟨k⟩
def pZ{L:Ι}(nb lb:Nat)(d F ν T:Int)(mb mp mr:Nat)(r:Int)(A:xs r)(pad:OA)(hA:uZ pad)(os:List E9)[hr:F5 L pad E9 dy 8 os](i:Nat)(hi:i<os.length)(o:E9)(ho:os[i]! = o)(J:QU o.m) :
  Υ Λ 98 #[ay nb,K r,.pointer (OQ pad 8 i 0)] (obj nb C5 (hl lb d F ν T mb mp mr)::I9 o::L) (λv Ε=>∃x:N7,v=bC (be x)/\x.m=fI d r o.m/\Ε = gO x::obj nb C5 (hl lb d F ν T mb mp mr)::I9 o::L):=by
 subst ho;refine Υ.bd ?_;refine Β.cM (E.at (Φ:=I9 os[i]!) ((E.dup (pC os[i]!).QM).trans Gg)) ?_;simp only[hl];repeat first|refine Β.sn 1 ?_|refine dz ?_|intro _|refine fg ?_
 rename_i b6;refine Β.c7 (α:=Nat×Nat) (λ_=>True) (λz=>[(0,ay nb),(1,K r),(2,.pointer (OQ pad 8 i 0)),(6,ay b6),(7,.pointer (some ⟨z.2,0,none⟩))]) (λz=>obj z.2 Oo [K 5,K r,K os[i]!.ai,.bool false,ae (some ⟨z.1,0,none⟩) 1 1,ae os[i]!.C4 os[i]!.Μ.length os[i]!.F3]::obj z.1 Pv (aZ os[i]!.Χ)::obj b6 B2 [K 0,K 0,ae none 0 0]::ms os[i]!.Χ::τ (eU .i64) 1 os[i]!.C4 os[i]!.Μ::I9 os[i]!::obj nb C5 [ay lb,K d,K F,K ν,K T,.map (some mb),.map (some mp),.map (some mr)]::L) ?_ ?_
 .refine Β.f7 mixed Θ ?_;refine GF.MP (i:=0) rfl Θ (Z.move rfl) ac ?_;refine GF.MP (i:=1) rfl Θ (Z.move rfl) ac ?_;refine GF.MP (i:=2) rfl Θ (by first|exact Z.nilCheck rfl|exact Z.c7 rfl hA) ac ?_;refine GF.NV (i:=3) rfl Θ (by first|exact Z.fieldAddr rfl|exact Z.d7 rfl D|exact Z.f8 rfl) ac ?_;refine GF.NV (i:=4) rfl Θ (by first|exact Z.d8 rfl rfl|exact Z.c9 rfl aY|exact Z.c8 rfl rfl|exact Z.d9 rfl D|exact Z.g8 rfl D rfl|exact Z.f7 rfl D ac rfl) ac ?_;refine GF.MP (i:=5) rfl Θ (Z.move rfl) ac ?_;refine GF.MP (i:=6) rfl Θ (by first|exact Z.nilCheck rfl|exact Z.c7 rfl hA) ac ?_;refine GF.NV (i:=7) rfl Θ (by first|exact Z.fieldAddr rfl|exact Z.d7 rfl D|exact Z.f8 rfl) ac ?_;refine GF.NV (i:=8) rfl Θ (by first|exact Z.d8 rfl rfl|exact Z.c9 rfl aY|exact Z.c8 rfl rfl|exact Z.d9 rfl D|exact Z.g8 rfl D rfl|exact Z.f7 rfl D ac rfl) ac ?_;refine GF.MP (i:=10) rfl Θ (Z.move rfl) ac ?_;refine GF.MP (i:=11) rfl Θ (by first|exact Z.nilCheck rfl|exact Z.c7 rfl hA) ac ?_;refine GF.NV (i:=12) rfl Θ (by first|exact Z.fieldAddr rfl|exact Z.d7 rfl D|exact Z.f8 rfl) ac ?_;refine GF.NV (i:=13) rfl Θ (by first|exact Z.d8 rfl rfl|exact Z.c9 rfl aY|exact Z.c8 rfl rfl|exact Z.d9 rfl D|exact Z.g8 rfl D rfl|exact Z.f7 rfl D ac rfl) ac ?_;refine GF.a8 9 15 Θ ?_ ?_
  .refine GE.ef rfl (Ef.lit rfl rfl ac aY) ac ?_;rintro _ _⟨bl,rfl,rfl⟩;refine⟨(by intro pe hp;simp only[fL,aH,or_false] at hp;rcases hp with rfl|rfl|rfl|rfl|rfl|rfl<;>first|exact Z.fieldAddr rfl|exact Z.d7 rfl D|exact Z.d8 rfl rfl|exact Z.c9 rfl aY|exact Z.c8 rfl rfl|exact Z.d9 rfl D|exact Z.g8 rfl D rfl|exact Z.f7 rfl D ac rfl),?_⟩;refine GF.y5 [.ev 14,.ef 15,.ef 16] Θ rfl ?_;refine Tb ?_;intros;repeat first|with_reducible apply vi.nil|((with_reducible apply vi.a8);first|refine vi.drop rfl ?_|refine vi.keep (by first|exact Z.d8 rfl rfl|exact Z.fieldAddr rfl|exact Z.d7 rfl D|exact Z.g8 rfl D rfl|exact Z.f7 rfl D ac rfl) ?_)
   refine Tb ?_;intros;rename_i bc;exact⟨(bl,bc),trivial,aG,by exact aj⟩
  .refine GE.ef rfl Ef.alloc ac ?_;rintro _ _⟨bc,rfl,rfl⟩;refine⟨(by intro pe hp;simp only[fL,aH,or_false] at hp;rcases hp with rfl|rfl|rfl|rfl|rfl|rfl<;>first|exact Z.fieldAddr rfl|exact Z.d7 rfl D|exact Z.d8 rfl rfl|exact Z.c9 rfl aY|exact Z.c8 rfl rfl|exact Z.d9 rfl D|exact Z.g8 rfl D rfl|exact Z.f7 rfl D ac rfl),?_⟩;refine GF.y5 [.ef 9,.ev 14,.ef 16] Θ rfl ?_;refine Tb ?_;intros;repeat first|with_reducible apply vi.nil|((with_reducible apply vi.a8);first|refine vi.drop rfl ?_|refine vi.keep (by first|exact Z.d8 rfl rfl|exact Z.fieldAddr rfl|exact Z.d7 rfl D|exact Z.g8 rfl D rfl|exact Z.f7 rfl D ac rfl) ?_)
   refine Tb ?_;intros;rename_i bl;exact⟨(bl,bc),trivial,aG,by exact aj⟩
 rintro⟨bl,bc⟩ _;dsimp only;have hc:OL (⟨5,r,os[i]!.ai,false,[os[i]!.Χ.m],os[i]!.Μ⟩:G4):=mZ A J;refine Β.cM (Ε:=MV ⟨5,r,os[i]!.ai,false,[os[i]!.Χ],some ⟨bl,0,none⟩,1,os[i]!.Μ,os[i]!.C4,os[i]!.F3⟩::obj bc Oo [K 5,K r,K os[i]!.ai,.bool false,ae (some ⟨bl,0,none⟩) 1 1,ae os[i]!.C4 os[i]!.Μ.length os[i]!.F3]::obj b6 B2 [K 0,K 0,ae none 0 0]::I9 os[i]!::obj nb C5 [ay lb,K d,K F,K ν,K T,.map (some mb),.map (some mp),.map (some mr)]::L) ?_ ?_
 .refine(E.at (Φ:=obj bl Pv (aZ os[i]!.Χ)) (E.d9 (Η:=aZ) (sz:=5) (G:=[os[i]!.Χ]) (n:=1) (by simp only[aS,cZ,aJ]) rfl (by intro x M;rfl) ac)).trans ?_;refine E.NZ.trans ?_;refine(E.at (Φ:=ms os[i]!.Χ) (E.d7 (f:=ms) fx)).trans ?_;refine E.trans (hx:=τ aZ 5 (some ⟨bl,0,none⟩) [os[i]!.Χ]::R5 (η ms [os[i]!.Χ]) (τ (eU .i64) 1 os[i]!.C4 os[i]!.Μ)::_) ?_ (E.g8 (cT _ _ _ _) (Og.and (eV fx) (cT _ _ _ _)));refine E.trans (hx:=η ms [os[i]!.Χ]::τ (eU .i64) 1 os[i]!.C4 os[i]!.Μ::τ aZ 5 (some ⟨bl,0,none⟩) [os[i]!.Χ]::_) aj ?_;exact(E.g8 (eV fx) (cT _ _ _ _)).trans E.swap
 refine Tb ?_;intros;refine δ.MP (Z.c7 rfl hA) ac ?_;refine Tb ?_;intros;refine δ.cM (Ε:=obj nb C5 [ay lb,K d,K F,K ν,K T,.map (some mb),.map (some mp),.map (some mr)]::MV ⟨5,r,os[i]!.ai,false,[os[i]!.Χ],some ⟨bl,0,none⟩,1,os[i]!.Μ,os[i]!.C4,os[i]!.F3⟩::(obj b6 B2 [K 0,K 0,ae none 0 0]::I9 os[i]!::L)) aj ?_;refine δ.ca (fE nb lb d F ν T mb mp mr os[i]!.Χ.m.ts ⟨5,r,os[i]!.ai,false,[os[i]!.Χ],some ⟨bl,0,none⟩,1,os[i]!.Μ,os[i]!.C4,os[i]!.F3⟩ hc) ?_;rintro _ _⟨y,rfl,U,rfl⟩;simp only[hl];refine Tb ?_;intros;exact KX.a8 (by exact C9.cell rfl aY (C9.nil)) aj ⟨y,rfl,U,rfl⟩
end
section
open Go.V
def B5(f t:Int)(am:List (Int×Int)):List B1:=am.map λa=>⟨f,t,a.1,a.2,[]⟩
def kj(f t:Int)(am:List (Int×Int)):(Ns f t am).map J5.m=B5 f t am:=by unfold Ns B5;rw[cu];rfl
theorem gX(f t:Int):∀am:List (Int×Int),C6 (B5 f t am)=am.length
 | []=>rfl
 | a::am=>by
  have h:=gX f t am;show(0+1)+C6 (B5 f t am)=am.length+1;omega
def H9(Ζ B:Int)(O:List B1):D7:=⟨0,Ζ,0,B,-1,0,O⟩
def Mc(Ζ B:Int)(O:List J5)(gi:OA)(iM:Nat):(NR Ζ B O gi iM).m=H9 Ζ B (O.map J5.m):=rfl
noncomputable def E6(S:Τ)(Ζ B:Int)(O:List B1):Bool:=dB ((E2 S (H9 Ζ B O)).1=0)
noncomputable def Nf(S:Τ)(Ζ B:Int)(O:List B1):List Int:=if(E2 S (H9 Ζ B O)).1=0 then ki S (H9 Ζ B O) else[]
noncomputable abbrev L3(S:Τ)(Ζ B:Int)(O:List B1):Τ:=bN S (H9 Ζ B O)
def mU{S:Τ}{Ζ B:Int}{O:List B1}(h:E6 S Ζ B O=false):L3 S Ζ B O=S:=Ο (λq=>by unfold E6 at h;rw[bO q] at h;cases h)
theorem zK{d:Int}{c:B4}{k:Nat}{S:Τ}(hS:NQ d c k S){Ζ B:Int}{O:List B1}(hk:k+C6 O<=2000)(h:E6 S Ζ B O=true):(Nf S Ζ B O).length=O.length/\O.length<=64:=by
 have he:(E2 S (H9 Ζ B O)).1=0:=by
  refine Classical.byContradiction λq=>?_;unfold E6 at h;rw[bz q] at h;cases h
 obtain⟨_,A,a2⟩:=tw (s:=H9 Ζ B O) hS.a hk he;have J:O.length<=64:=A.2.2.2.1.2;grind [Nf,ki,bN,H9,fF]
def GW{d:Int}{c:B4}{k:Nat}{S:Τ}(hS:NQ d c k S){Ζ B:Int}{O:List B1}(hk:k+C6 O<=2000):∀f∈Nf S Ζ B O,xs f:=by
 intro f hf;unfold Nf at hf;split at hf
 .unfold ki at hf;obtain⟨g,hg,rfl⟩:=H8 hf;have A:=eK hg;obtain⟨j,hj,rfl⟩:=List.getElem_of_mem A;have hA:=(hS.post (H9 Ζ B O) hk).a;have I:=(hA.fn j hj).1;rw[E7 hj] at I;have Q:=hA.g.Μ;have h3:=hA.g.Ev;have h4:=hA.g.D9;unfold xs;omega
 .cases hf
attribute [local irreducible] Β Y GP δ vi GF GE Z Ef C0 E CB GB V.Enters
theorem jv{L:Ι}(nb lb:Nat)(d F ν T:Int)(mb mp mr:Nat)(c:B4)(k:Nat)(S:Τ)(hS:NQ d c k S)(Ζ B:Int)(O:List J5)(gi:OA)(iM:Nat)(hs:RN (NR Ζ B O gi iM))(hk:k+C6 (O.map J5.m)<=2000) :
  Υ Λ 146 #[ay nb,K Ζ,K B,ae gi O.length iM] (μ cq 5 OC gi iM O::η Na O::obj nb C5 (hl lb d F ν T mb mp mr)::aT lb S::L) (λv Ε=>∃C4 F3,v=.tuple #[ae C4 (Nf S Ζ B (O.map J5.m)).length F3,.bool (E6 S Ζ B (O.map J5.m))]/\Ε = μ (eU .i64) 1 C3 C4 F3 (Nf S Ζ B (O.map J5.m))::obj nb C5 (hl lb d F ν T mb mp mr)::aT lb (L3 S Ζ B (O.map J5.m))::L):=by
 have J:RN (NR Ζ B [] none 0):=⟨hs.kd,aD _,hs.K8,λm hm=>iJ hm aH,λm hm=>iJ hm aH,λm hm=>iJ hm aH⟩;refine Υ.f7 (φ:=O.length<=iM) (uu (L:=[]) nb lb d F ν T mb mp mr c k S hS Ζ B [] none 0 J (ax _) (by show k+0<=2000;omega)).enters (λθ R w s=>(mS (ad:=gi) (G:=O) θ R w s).1) λA=>?_;have h:=uu (L:=L) nb lb d F ν T mb mp mr c k S hS Ζ B O gi iM hs A hk;simp only[Mc] at h;refine(h.pre (L:=μ cq 5 OC gi iM O::η Na O::obj nb C5 (hl lb d F ν T mb mp mr)::aT lb S::L) ?_).Q2 ?_
 .refine E.NZ.trans ?_;exact aj
 rintro v Ε (⟨I,C4,F3,rfl,rfl⟩|⟨I,rfl,rfl⟩)
 .refine⟨_,⟨C4,F3,?_,rfl⟩,?_⟩
  .grind [Nf,E6,bO]
  .unfold Nf;rw[Ω I];exact aj
 .refine⟨_,⟨none,0,?_,rfl⟩,?_⟩
  .grind [Nf,E6,bz]
  .unfold Nf L3 bN;rw[Ο I,Ο I];refine(E.c8 (eU .i64) 1 C3).trans ?_;exact aj
noncomputable def bY(d r cN Κ B:Int)(o:hD)(S:Τ):List fK×hD×Τ :=
 if o.state≠0 then([],o,S)
 else if cN=1/\o.Χ.ts≠d then
  if E6 S 6 B (B5 Κ 0 o.Χ.am)=true then([fI d r { o with state:=1,Μ:=Nf S 6 B (B5 Κ 0 o.Χ.am) }],{ o with state:=1,Μ:=Nf S 6 B (B5 Κ 0 o.Χ.am) },L3 S 6 B (B5 Κ 0 o.Χ.am)) else([],o,S)
 else if E6 S 2 B (B5 Κ (if cN=2 then o.Χ.fr else o.Χ.to) o.Χ.am)=true then([],{ o with state:=2 },L3 S 2 B (B5 Κ (if cN=2 then o.Χ.fr else o.Χ.to) o.Χ.am)) else([],o,S)
structure J6 where
 b:Nat
 state:Int
 Κ:Int
 Α:List E9
 bD:OA
 id:Nat
 deriving Inhabited
def Of(p:J6):χ:=[K p.state,K p.Κ,ae p.bD p.Α.length p.id]
structure Nl where
 state:Int
 Κ:Int
 Α:List hD
 deriving Inhabited,DecidableEq
def J6.m(p:J6):Nl:=⟨p.state,p.Κ,p.Α.map E9.m⟩
theorem jS{d r cN Κ B:Int}{o:hD}{S:Τ}(h:o.state≠0):bY d r cN Κ B o S=([],o,S):=Ω h
theorem kB{d r cN Κ B:Int}{o:hD}{S:Τ}(h:o.state=0)(hB:cN=1/\o.Χ.ts≠d):bY d r cN Κ B o S=if E6 S 6 B (B5 Κ 0 o.Χ.am)=true then([fI d r { o with state:=1,Μ:=Nf S 6 B (B5 Κ 0 o.Χ.am) }],{ o with state:=1,Μ:=Nf S 6 B (B5 Κ 0 o.Χ.am) },L3 S 6 B (B5 Κ 0 o.Χ.am)) else([],o,S):=by
 grind [bY]
theorem ja{d r cN Κ B to:Int}{o:hD}{S:Τ}(h:o.state=0)(hB:¬(cN=1/\o.Χ.ts≠d))(ht:to=if cN=2 then o.Χ.fr else o.Χ.to):bY d r cN Κ B o S=if E6 S 2 B (B5 Κ to o.Χ.am)=true then([],{ o with state:=2 },L3 S 2 B (B5 Κ to o.Χ.am)) else([],o,S):=by
 grind [bY]
theorem mQ{α:Type}[Inhabited α]{l:List α}{i:Nat}(h:i<l.length):l.set i l[i]! = l:=by
 grind [eC]
theorem Jz{α:Type}[Inhabited α]{l:List α}{i:Nat}(h:i<l.length)(x:α):(l.set i x)[i]! = x:=by
 grind
theorem E.j7{α:Type}{f:α->HP}(hf:∀x,Og (f x)){l:List α}{i:Nat}{x:α}{L:Ι}:E (f x::η f l::L) (η f (l.set i x)::L) :=
 (E.j5 hf).trans (E.g9 ah)
def E.k7{L:Ι}(f t:Int):∀am:List (Int×Int),E L (η Na (Ns f t am)::L)
 | []=>E.c7 Na
 | a::am=>(E.k7 f t am).trans ((E.f7 aK 3 none).trans (E.j5 (f:=Na) (x:=Vy f t a.1 a.2) kq))
theorem nF(Ζ B f t:Int)(kd:Pe Ζ)(am:List (Int×Int))(h:am.length<=1000)(gi:OA)(iM:Nat):RN (NR Ζ B (Ns f t am) gi iM):=by
 have hm:∀m∈Ns f t am,m.m.Γ=[]:=λm hm=>by
  obtain⟨a,_,rfl⟩:=H8 hm;rfl
 refine⟨kd,?_,by show xs (-1);unfold xs;omega,λm I=>?_,λm I=>?_,λm I p hp=>?_⟩
 .show(Ns f t am).length<=1000000;grind [Ns]
 .rw[hm m I];grind
 .rw[hm m I];grind
 .rw[hm m I] at hp;cases hp
abbrev El:=Yw []
abbrev Ek:=Yu [.ev 10,.ef 11,.ef 12,.ev 13,.ev 14,.ev 15,.ev 16,.ev 17]
abbrev Bt:=Yu [.ev 10,.ev 11,.ef 12,.ef 13,.ev 14,.ev 15,.ev 16,.ev 17,.ev 18]
def Tj{φ ψ:Prop}(k:ψ)(h:Hid ψ->φ:=by intro k;(repeat (first|refine ab ?_|intro B8|refine Β.dr 104 3 El ?_|refine Β.dr 104 4 Ek ?_|refine Β.dr 104 12 Bt ?_));(repeat revert B8);exact Hid.out k):φ:=h ⟨k⟩
theorem mV{L:Ι}(nb lb:Nat)(d F ν T:Int)(mb mp mr:Nat)(c:B4)(k:Nat)(S:Τ)(hS:NQ d c k S)(r:Int)(b0:xs r)(pb:Nat)(cN Κ:Int)(bD:OA)(id:Nat)(hA:uZ bD)(os:List E9)(i:Nat)(hi:i<os.length)(a4:QU os[i]!.m)(B:Int)(hk:os[i]!.state=0->k+os[i]!.Χ.m.am.length<=2000) :
  Υ Λ 97 #[ay nb,K r,ay pb,.pointer (OQ bD 8 i 0),K B] (obj nb C5 (hl lb d F ν T mb mp mr)::obj pb NS (Of ⟨pb,cN,Κ,os,bD,id⟩)::μ dy 8 NN bD id os::η I9 os::aT lb S::L) (λv Ε=>∃ad cap O o',v=ae ad O.length cap/\(O.map (·.m),o'.m,(bY d r cN Κ B os[i]!.m S).2.2)=bY d r cN Κ B os[i]!.m S/\Ε = μ be 3 B2 ad cap O::η gO O::obj nb C5 (hl lb d F ν T mb mp mr)::obj pb NS (Of ⟨pb,cN,Κ,os,bD,id⟩)::μ dy 8 NN bD id (os.set i o')::η I9 (os.set i o')::aT lb ((bY d r cN Κ B os[i]!.m S).2.2)::L):=by
 have a3:os[i]!.Χ.m.am.length<=1000:=by have:=a4.1.2.1;simp only[E9.m] at this;omega
 have A:os[i]!∈os:=by rw[E7 hi];exact ah
 refine Υ.bd ?_;refine Β.cM (E.at (Φ:=η I9 os) ((E.d8 A).trans Gg)) ?_;simp only[hl,Of];refine Tj ?_;intros;refine Y.ev (Z.c7 rfl hA) ac ?_;by_cases h0:os[i]!.state=0
 case neg =>
  have hW:=jS (d:=d) (r:=r) (cN:=cN) (B:=B) (Κ:=Κ) (S:=S) (o:=os[i]!.m) h0;refine Tj ?_;intros;rw[hW];refine KX.a8 aC ?_ ⟨none,0,[],os[i]!,rfl,rfl,rfl⟩;rw[mQ hi];exact(E.c8 be 3 B2).trans ((E.c7 gO).trans aj)
 replace hk:=hk h0;by_cases b1:cN=1
 .by_cases a7:os[i]!.Χ.m.ts=d
  .have hB:¬(cN=1/\os[i]!.m.Χ.ts≠d):=λq=>q.2 a7;refine Tj ?_;intros;refine δ.MP (Z.c7 rfl hA) ac ?_;refine Tj ?_;intros;refine Y.ev (Z.c7 rfl hA) ac ?_;have a2:¬cN=2:=D;refine Tj ?_;intros;refine δ.MP (Z.c7 rfl hA) ac ?_;refine Tj ?_;intros;refine δ.ca (jz os[i]!.Χ.ad _ _ os[i]!.Χ.m.am rfl a3 Κ os[i]!.Χ.m.to) ?_;rintro _ _⟨gi,iM,rfl,rfl⟩;refine Tj ?_;intros;refine δ.cM (Ε:=μ cq 5 OC gi iM (Ns Κ os[i]!.Χ.m.to os[i]!.Χ.m.am)::η Na (Ns Κ os[i]!.Χ.m.to os[i]!.Χ.m.am)::obj nb C5 [ay lb,K d,K F,K ν,K T,.map (some mb),.map (some mp),.map (some mr)]::aT lb S::(ms os[i]!.Χ::τ (eU .i64) 1 os[i]!.C4 os[i]!.Μ::obj pb NS [K cN,K Κ,ae bD os.length id]::μ dy 8 NN bD id os::η I9 os::L)) ((E.k7 Κ os[i]!.Χ.m.to os[i]!.Χ.m.am).trans aj) ?_;refine δ.ca (jv nb lb d F ν T mb mp mr c k S hS 2 B (Ns Κ os[i]!.Χ.m.to os[i]!.Χ.m.am) gi iM (nF _ _ _ _ (by unfold Pe;omega) _ a3 _ _) (by rw[kj,gX];exact hk)) ?_;rw[kj];rintro _ _⟨C4,F3,rfl,rfl⟩;simp only[hl];cases O0:E6 S 2 B (B5 Κ os[i]!.Χ.m.to os[i]!.Χ.m.am)
   .have hW:=ja (d:=d) (r:=r) (cN:=cN) (B:=B) (Κ:=Κ) (S:=S) (to:=os[i]!.Χ.m.to) (o:=os[i]!.m) h0 hB (by rw[Ο a2];rfl);rw[Ο (by rw[show B5 Κ os[i]!.Χ.m.to os[i]!.m.Χ.am=B5 Κ os[i]!.Χ.m.to os[i]!.Χ.m.am from rfl,O0];exact fu)] at hW;have J:=mU O0;rw[J];refine Tj ?_;intros;rw[hW];refine KX.a8 aC ?_ ⟨none,0,[],os[i]!,rfl,rfl,rfl⟩;rw[mQ hi];refine(E.c8 be 3 B2).trans ((E.c7 gO).trans ?_);exact aj
   .have hW:=ja (d:=d) (r:=r) (cN:=cN) (B:=B) (Κ:=Κ) (S:=S) (to:=os[i]!.Χ.m.to) (o:=os[i]!.m) h0 hB (by rw[Ο a2];rfl);rw[Ω (by exact O0)] at hW;refine Tj ?_;intros;refine Y.ev (Z.c7 rfl hA) ac ?_;refine Tj ?_;intros;refine Y.No (Ef.d7 (Η:=dy) (e:=(⟨os[i]!.Χ,os[i]!.ai,2,os[i]!.Μ,os[i]!.C4,os[i]!.F3⟩:E9)) rfl rfl rfl rfl hi ac) ?_;rintro _ _ rfl;refine Tj ?_;intros;rw[hW];refine KX.a8 aC ?_ ⟨none,0,[],(⟨os[i]!.Χ,os[i]!.ai,2,os[i]!.Μ,os[i]!.C4,os[i]!.F3⟩:E9),rfl,rfl,rfl⟩;refine(E.c8 be 3 B2).trans ((E.c7 gO).trans ?_);refine(E.at (Φ:=η I9 os) ((E.d8 A).trans (E.j7 (f:=I9) (x:=(⟨os[i]!.Χ,os[i]!.ai,2,os[i]!.Μ,os[i]!.C4,os[i]!.F3⟩:E9)) (i:=i) pC))).trans ?_;dsimp only[E9.m];exact aj
  .have hB:cN=1/\os[i]!.m.Χ.ts≠d:=⟨b1,a7⟩;refine Tj ?_;intros;refine δ.MP (Z.c7 rfl hA) ac ?_;refine Tj ?_;intros;refine δ.MP (Z.c7 rfl hA) ac ?_;refine Tj ?_;intros;refine δ.ca (jz os[i]!.Χ.ad _ _ os[i]!.Χ.m.am rfl a3 Κ 0) ?_;rintro _ _⟨gi,iM,rfl,rfl⟩;refine Tj ?_;intros;refine δ.cM (Ε:=μ cq 5 OC gi iM (Ns Κ 0 os[i]!.Χ.m.am)::η Na (Ns Κ 0 os[i]!.Χ.m.am)::obj nb C5 [ay lb,K d,K F,K ν,K T,.map (some mb),.map (some mp),.map (some mr)]::aT lb S::(ms os[i]!.Χ::τ (eU .i64) 1 os[i]!.C4 os[i]!.Μ::obj pb NS [K cN,K Κ,ae bD os.length id]::μ dy 8 NN bD id os::η I9 os::L)) ((E.k7 Κ 0 os[i]!.Χ.m.am).trans aj) ?_;refine δ.ca (jv nb lb d F ν T mb mp mr c k S hS 6 B (Ns Κ 0 os[i]!.Χ.m.am) gi iM (by grind [nF,Pe]) (by rw[kj,gX];exact hk)) ?_;rw[kj];rintro _ _⟨C4,F3,rfl,rfl⟩;simp only[hl];cases O0:E6 S 6 B (B5 Κ 0 os[i]!.Χ.m.am)
   .have hW:=kB (d:=d) (r:=r) (cN:=cN) (B:=B) (Κ:=Κ) (S:=S) (o:=os[i]!.m) h0 hB;rw[Ο (by rw[show B5 Κ 0 os[i]!.m.Χ.am=B5 Κ 0 os[i]!.Χ.m.am from rfl,O0];grind)] at hW;have J:=mU O0;rw[J];refine Tj ?_;intros;rw[hW];refine KX.a8 aC ?_ ⟨none,0,[],os[i]!,rfl,rfl,rfl⟩;rw[mQ hi];refine(E.c8 be 3 B2).trans ((E.c7 gO).trans ?_);exact aj
   .have hW:=kB (d:=d) (r:=r) (cN:=cN) (B:=B) (Κ:=Κ) (S:=S) (o:=os[i]!.m) h0 hB;rw[Ω (by exact O0)] at hW;refine Tj ?_;intros;refine Y.ev (Z.c7 rfl hA) ac ?_;refine Tj ?_;intros;refine Y.No (Ef.d7 (Η:=dy) (e:=(⟨os[i]!.Χ,os[i]!.ai,1,os[i]!.Μ,os[i]!.C4,os[i]!.F3⟩:E9)) rfl rfl rfl rfl hi ac) ?_;rintro _ _ rfl;refine Tj ?_;intros;refine Y.ev (Z.c7 rfl hA) ac ?_;refine Y.ev (Z.d7 rfl (by rw[bU];exact hi)) ac ?_;refine Tj ?_;intros;refine Y.No (Ef.d7 (Η:=dy) (e:=(⟨os[i]!.Χ,os[i]!.ai,1,Nf S 6 B (B5 Κ 0 os[i]!.Χ.m.am),C4,F3⟩:E9)) rfl rfl (by rw[Jz hi];rfl) rfl ah ac) ?_;rintro _ _ rfl;rw[List.set_set];have b2:=zK hS (by grind [gX]) O0;have a9:=GW hS (Ζ:=6) (B:=B) (show k+C6 (B5 Κ 0 os[i]!.Χ.m.am)<=2000 by rw[gX];exact hk);generalize Wj:(⟨os[i]!.Χ,os[i]!.ai,1,Nf S 6 B (B5 Κ 0 os[i]!.Χ.m.am),C4,F3⟩:E9)=e2 at *;have a5:QU e2.m:=by rw[<-Wj];exact⟨a4.1,a4.2.1,by show(Nf S 6 B (B5 Κ 0 os[i]!.Χ.m.am)).length<=1000;omega,a9⟩
    refine Y.cM (Ε:=μ dy 8 NN bD id (os.set i e2)::η I9 (os.set i e2)::I9 e2::obj nb C5 [ay lb,K d,K F,K ν,K T,.map (some mb),.map (some mp),.map (some mr)]::aT lb (L3 S 6 B (B5 Κ 0 os[i]!.Χ.m.am))::obj pb NS [K cN,K Κ,ae bD os.length id]::L) ?_ ?_
    .refine(E.at (Φ:=μ (eU .i64) 1 C3 C4 F3 (Nf S 6 B (B5 Κ 0 os[i]!.Χ.m.am))) E.NZ).trans ?_;refine E.trans (hx:=I9 e2::η I9 os::μ dy 8 NN bD id (os.set i e2)::obj nb C5 [ay lb,K d,K F,K ν,K T,.map (some mb),.map (some mp),.map (some mr)]::aT lb (L3 S 6 B (B5 Κ 0 os[i]!.Χ.m.am))::obj pb NS [K cN,K Κ,ae bD os.length id]::L) ?_ ?_
     .refine E.trans (hx:=ms os[i]!.Χ::τ (eU .i64) 1 C4 (Nf S 6 B (B5 Κ 0 os[i]!.Χ.m.am))::η I9 os::μ dy 8 NN bD id (os.set i e2)::obj nb C5 [ay lb,K d,K F,K ν,K T,.map (some mb),.map (some mp),.map (some mr)]::aT lb (L3 S 6 B (B5 Κ 0 os[i]!.Χ.m.am))::obj pb NS [K cN,K Κ,ae bD os.length id]::L) aj ?_;rw[<-Wj];exact E.g8 (fx _) (cT _ _ _ _)
     .refine(E.dup (pC e2).QM).trans ((E.a8 (E.j7 (f:=I9) (i:=i) pC)).trans ?_);exact aj
    refine Tj ?_;intros;refine Y.cM (Ε:=obj nb C5 [ay lb,K d,K F,K ν,K T,.map (some mb),.map (some mp),.map (some mr)]::I9 e2::(μ dy 8 NN bD id (os.set i e2)::η I9 (os.set i e2)::aT lb (L3 S 6 B (B5 Κ 0 os[i]!.Χ.m.am))::obj pb NS [K cN,K Κ,ae bD os.length id]::L)) aj ?_;refine Y.ca (pZ nb lb d F ν T mb mp mr r b0 bD hA (os.set i e2) i ah e2 (Jz hi e2) a5) ?_;rintro _ _⟨y,rfl,U,rfl⟩;simp only[hl];refine Tj ?_;intros;rename_i a6;rw[hW];refine KX.a8 aC ?_ ⟨some ⟨a6,0,none⟩,1,[y],e2,rfl,?_,rfl⟩
    .refine(E.at (Φ:=gO y) (E.d7 (f:=gO) fj)).trans ?_;refine(E.at (Φ:=obj a6 B2 [K y.m.Ν,K y.m.to,ae y.ad (OR y.m.ct).length y.cap]) (E.d9 (Η:=be) (sz:=3) (G:=[y]) (n:=1) (by simp only[aS,cZ,aJ];rfl) rfl (by intro x M;rfl) ac)).trans ?_;dsimp only[E9.m];exact aj
    .rw[al,bu,U,<-Wj];rfl
 .have hB:¬(cN=1/\os[i]!.m.Χ.ts≠d):=D;refine Tj ?_;intros;refine Y.ev (Z.c7 rfl hA) ac ?_;by_cases a2:cN=2
  .refine Tj ?_;intros;refine Y.ev (Z.c7 rfl hA) ac ?_;refine Tj ?_;intros;refine δ.MP (Z.c7 rfl hA) ac ?_;refine Tj ?_;intros;refine δ.ca (jz os[i]!.Χ.ad _ _ os[i]!.Χ.m.am rfl a3 Κ os[i]!.Χ.m.fr) ?_;rintro _ _⟨gi,iM,rfl,rfl⟩;refine Tj ?_;intros;refine δ.cM (Ε:=μ cq 5 OC gi iM (Ns Κ os[i]!.Χ.m.fr os[i]!.Χ.m.am)::η Na (Ns Κ os[i]!.Χ.m.fr os[i]!.Χ.m.am)::obj nb C5 [ay lb,K d,K F,K ν,K T,.map (some mb),.map (some mp),.map (some mr)]::aT lb S::(ms os[i]!.Χ::τ (eU .i64) 1 os[i]!.C4 os[i]!.Μ::obj pb NS [K cN,K Κ,ae bD os.length id]::μ dy 8 NN bD id os::η I9 os::L)) ((E.k7 Κ os[i]!.Χ.m.fr os[i]!.Χ.m.am).trans aj) ?_;refine δ.ca (jv nb lb d F ν T mb mp mr c k S hS 2 B (Ns Κ os[i]!.Χ.m.fr os[i]!.Χ.m.am) gi iM (by grind [nF,Pe]) (by rw[kj,gX];exact hk)) ?_;rw[kj];rintro _ _⟨C4,F3,rfl,rfl⟩;simp only[hl];cases O0:E6 S 2 B (B5 Κ os[i]!.Χ.m.fr os[i]!.Χ.m.am)
   .have hW:=ja (d:=d) (r:=r) (cN:=cN) (B:=B) (Κ:=Κ) (S:=S) (to:=os[i]!.Χ.m.fr) (o:=os[i]!.m) h0 hB (by rw[Ω a2];rfl);rw[Ο (by rw[show B5 Κ os[i]!.Χ.m.fr os[i]!.m.Χ.am=B5 Κ os[i]!.Χ.m.fr os[i]!.Χ.m.am from rfl,O0];grind)] at hW;have J:=mU O0;rw[J];refine Tj ?_;intros;rw[hW];refine KX.a8 aC ?_ ⟨none,0,[],os[i]!,rfl,rfl,rfl⟩;rw[mQ hi];refine(E.c8 be 3 B2).trans ((E.c7 gO).trans ?_);exact aj
   .have hW:=ja (d:=d) (r:=r) (cN:=cN) (B:=B) (Κ:=Κ) (S:=S) (to:=os[i]!.Χ.m.fr) (o:=os[i]!.m) h0 hB (by rw[Ω a2];rfl);rw[Ω (by exact O0)] at hW;refine Tj ?_;intros;refine Y.ev (Z.c7 rfl hA) ac ?_;refine Tj ?_;intros;refine Y.No (Ef.d7 (Η:=dy) (e:=(⟨os[i]!.Χ,os[i]!.ai,2,os[i]!.Μ,os[i]!.C4,os[i]!.F3⟩:E9)) rfl rfl rfl rfl hi ac) ?_;rintro _ _ rfl;refine Tj ?_;intros;rw[hW];refine KX.a8 aC ?_ ⟨none,0,[],(⟨os[i]!.Χ,os[i]!.ai,2,os[i]!.Μ,os[i]!.C4,os[i]!.F3⟩:E9),rfl,rfl,rfl⟩;refine(E.c8 be 3 B2).trans ((E.c7 gO).trans ?_);refine(E.at (Φ:=η I9 os) ((E.d8 A).trans (E.j7 (f:=I9) (x:=(⟨os[i]!.Χ,os[i]!.ai,2,os[i]!.Μ,os[i]!.C4,os[i]!.F3⟩:E9)) (i:=i) pC))).trans ?_;dsimp only[E9.m];exact aj
  .refine Tj ?_;intros;refine δ.MP (Z.c7 rfl hA) ac ?_;refine Tj ?_;intros;refine δ.ca (jz os[i]!.Χ.ad _ _ os[i]!.Χ.m.am rfl a3 Κ os[i]!.Χ.m.to) ?_;rintro _ _⟨gi,iM,rfl,rfl⟩;refine Tj ?_;intros;refine δ.cM (Ε:=μ cq 5 OC gi iM (Ns Κ os[i]!.Χ.m.to os[i]!.Χ.m.am)::η Na (Ns Κ os[i]!.Χ.m.to os[i]!.Χ.m.am)::obj nb C5 [ay lb,K d,K F,K ν,K T,.map (some mb),.map (some mp),.map (some mr)]::aT lb S::(ms os[i]!.Χ::τ (eU .i64) 1 os[i]!.C4 os[i]!.Μ::obj pb NS [K cN,K Κ,ae bD os.length id]::μ dy 8 NN bD id os::η I9 os::L)) ((E.k7 Κ os[i]!.Χ.m.to os[i]!.Χ.m.am).trans aj) ?_;refine δ.ca (jv nb lb d F ν T mb mp mr c k S hS 2 B (Ns Κ os[i]!.Χ.m.to os[i]!.Χ.m.am) gi iM (nF _ _ _ _ (by unfold Pe;omega) _ a3 _ _) (by rw[kj,gX];exact hk)) ?_;rw[kj];rintro _ _⟨C4,F3,rfl,rfl⟩;simp only[hl];cases O0:E6 S 2 B (B5 Κ os[i]!.Χ.m.to os[i]!.Χ.m.am)
   .have hW:=ja (d:=d) (r:=r) (cN:=cN) (B:=B) (Κ:=Κ) (S:=S) (to:=os[i]!.Χ.m.to) (o:=os[i]!.m) h0 hB (by rw[Ο a2];rfl);rw[Ο (by rw[show B5 Κ os[i]!.Χ.m.to os[i]!.m.Χ.am=B5 Κ os[i]!.Χ.m.to os[i]!.Χ.m.am from rfl,O0];exact fu)] at hW;have J:=mU O0;rw[J];refine Tj ?_;intros;rw[hW];refine KX.a8 aC ?_ ⟨none,0,[],os[i]!,rfl,rfl,rfl⟩;rw[mQ hi];refine(E.c8 be 3 B2).trans ((E.c7 gO).trans ?_);exact aj
   .have hW:=ja (d:=d) (r:=r) (cN:=cN) (B:=B) (Κ:=Κ) (S:=S) (to:=os[i]!.Χ.m.to) (o:=os[i]!.m) h0 hB (by rw[Ο a2];rfl);rw[Ω (by exact O0)] at hW;refine Tj ?_;intros;refine Y.ev (Z.c7 rfl hA) ac ?_;refine Tj ?_;intros;refine Y.No (Ef.d7 (Η:=dy) (e:=(⟨os[i]!.Χ,os[i]!.ai,2,os[i]!.Μ,os[i]!.C4,os[i]!.F3⟩:E9)) rfl rfl rfl rfl hi ac) ?_;rintro _ _ rfl;refine Tj ?_;intros;rw[hW];refine KX.a8 aC ?_ ⟨none,0,[],(⟨os[i]!.Χ,os[i]!.ai,2,os[i]!.Μ,os[i]!.C4,os[i]!.F3⟩:E9),rfl,rfl,rfl⟩;refine(E.c8 be 3 B2).trans ((E.c7 gO).trans ?_);refine(E.at (Φ:=η I9 os) ((E.d8 A).trans (E.j7 (f:=I9) (x:=(⟨os[i]!.Χ,os[i]!.ai,2,os[i]!.Μ,os[i]!.C4,os[i]!.F3⟩:E9)) (i:=i) pC))).trans ?_;dsimp only[E9.m];exact aj
