/- Exchanges: worlds in memory; an operation of the law. -/
import Derived.Test.YtlgpgjdggilkgaaGreatDoorErbo
set_option linter.all false
set_option maxHeartbeats 16000000
namespace Go.Proofs.YtlgpgjdggilkgaaGreatDoor
open Go.V
abbrev KB:Nat:=42
structure F5 where
 nb:Nat
 lb:Nat
 d:Int
 n:E0
 S:Χ
 deriving Inhabited
def F5.m(s:F5):eu×Χ:=(s.n.m,s.S)
def Il(Q:Int)(s:F5):HP:=bW (a1 s.nb s.lb s.d Q s.n [aN s.lb s.S])
structure E4 where
 ν:List F5
 ad:OA
 fe:Nat
 F4:OA
 IM:Nat
 ia:List JQ
 cU:OA
 fH:Nat
 G:Int
 B9:List Int
 F3:OA
 G3:Nat
def E4.m(W:E4):D2:=⟨W.ν.map F5.m,W.ia.map (·.m),W.G,W.B9⟩
def cI(b:Nat):LV:=[al b]
def tA(b:Nat):∀u∈cI b,u.oneCell' = true:=by simp[cI,Value.oneCell']
def G9(W:E4):LV:=[ae W.ad W.ν.length W.fe,ae W.F4 W.ν.length W.IM,ae W.cU W.ia.length W.fH,E W.G,ae W.F3 W.B9.length W.G3]
def E6(wb:Nat)(Q:Int)(W:E4)(L:LH):LH:=obj wb KB (G9 W)::ε cI 1 W.ad (W.ν.map (·.lb))::ε cI 1 W.F4 (W.ν.map (·.nb))::G4 aV 3 hy W.cU W.fH W.ia::Ρ cV W.ia::Υ (a0 .i64) 1 kR W.F3 W.G3 W.B9::ew (Il Q) W.ν::L
def ML(W W' : E4):Prop:=W'.ν.map (λs=>(s.lb,s.nb,s.d))=W.ν.map λs=>(s.lb,s.nb,s.d)
def N2(W:E4):Prop:=∀i:Nat,i<W.ν.length->W.ν[i]!.d=(i:Int)
def BX{α:Type}[Inhabited α]{l:List α}{i:Nat}(h:i<l.length):l.Perm (l[i]!::l.eraseIdx i):=by
 rw[C5 h,List.eraseIdx_eq_take_drop_succ];have e:l.take i++l[i]::l.drop (i+1)=l:=by rw[<-bS h,cz]
 have q:(l.take i++l[i]::l.drop (i+1)).Perm (l[i]::(l.take i++l.drop (i+1))):=dq;rw[e] at q;exact q
def Ex{α:Type}{l:List α}{i:Nat}(h:i<l.length)(x:α):(l.set i x).Perm (x::l.eraseIdx i):=by
 rw[List.set_eq_take_append_cons_drop,μ h,List.eraseIdx_eq_take_drop_succ];exact dq
def lj{Q:Int}{ν:List F5}{i:Nat}(h:i<ν.length){s:F5}(hs:ν[i]! = s){L:LH}:A (ew (Il Q) ν::L) (a1 s.nb s.lb s.d Q s.n (aN s.lb s.S::ew (Il Q) (ν.eraseIdx i)::L)):=by
 subst hs;exact(A.j8 (BX h)).trans (A.Ql.trans A.NN)
def Sp{Q:Int}{ν:List F5}{i:Nat}(h:i<ν.length){s:F5}(n:E0)(S:Χ){L:LH}:A (a1 s.nb s.lb s.d Q n (aN s.lb S::ew (Il Q) (ν.eraseIdx i)::L)) (ew (Il Q) (ν.set i { s with n:=n,S:=S })::L) :=
 A.trans (A.trans (A.f8 (Μ:=a1 s.nb s.lb s.d Q n [aN s.lb S])) (A.Qk (f:=Il Q) (x:={ s with n:=n,S:=S }))) (A.j8 (Ex h _).symm)
def gQ{β:Type}(f:F5->β){ν:List F5}{i:Nat}{s:F5}(hs:ν[i]! = s)(s' : F5)(h:f s' = f s):(ν.set i s').map f=ν.map f:=by
 rw[List.map_set,h,<-hs];by_cases hi:i<ν.length
 .rw[C5 hi];refine eN bR λk J U=>?_;rw[eK];split
  .rename_i q;subst q;simp
  .rfl
 .rw[List.set_eq_of_length_le gg]
def jC{wb:Nat}{Q:Int}{W:E4}{i:Nat}(r:i<W.ν.length){s:F5}(hs:W.ν[i]! = s)(n' : E0)(S' : Χ)(ia:List JQ)(cU:OA)(fH:Nat)(G:Int)(B9:List Int)(F3:OA)(G3:Nat){L:LH} :
  A (obj wb KB [ae W.ad W.ν.length W.fe,ae W.F4 W.ν.length W.IM,ae cU ia.length fH,E G,ae F3 B9.length G3]::ε cI 1 W.ad (W.ν.map (·.lb))::ε cI 1 W.F4 (W.ν.map (·.nb))::G4 aV 3 hy cU fH ia::Ρ cV ia::Υ (a0 .i64) 1 kR F3 G3 B9::a1 s.nb s.lb s.d Q n' (aN s.lb S'::ew (Il Q) (W.ν.eraseIdx i)::L))
   (E6 wb Q ⟨W.ν.set i { s with n:=n',S:=S' },W.ad,W.fe,W.F4,W.IM,ia,cU,fH,G,B9,F3,G3⟩ L):=by
 have e1:(W.ν.set i { s with n:=n',S:=S' }).map (λs=>s.lb)=W.ν.map λs=>s.lb:=gQ (λs=>s.lb) hs _ rfl;have e2:(W.ν.set i { s with n:=n',S:=S' }).map (λs=>s.nb)=W.ν.map λs=>s.nb:=gQ (λs=>s.nb) hs _ rfl;simp only[E6,G9];rw[e1,e2,bq];exact A.c7 (A.c7 (A.c7 (A.c7 (A.c7 (A.c7 (Sp r n' S'))))))
def E4.a8{W:E4}{k:Int}{s:F5}(hk:0<=k/\k<W.ν.length)(hs:W.ν[k.toNat]! = s):W.m.nd k=(s.n.m,s.S):=by
 subst hs;exact dY (f:=F5.m) (l:=W.ν) (i:=k.toNat) B
def E4.c7{W:E4}{k:Int}{s:F5}(n:E0)(S:Χ)(ds:List JQ)(Θ:Ja)(J:ds.map (·.m)=Θ.1)(U:n.m=Θ.2.1)(h3:S=Θ.2.2)(cU:OA)(fH:Nat):({ W with ν:=W.ν.set k.toNat { s with n:=n,S:=S },ia:=W.ia++ds,cU:=cU,fH:=fH }:E4).m=W.m.send k Θ:=by
 unfold D2.send E4.m;dsimp only;rw[List.map_set,aL,J];congr 1;rw[<-U,h3];rfl
def Hq{o:MK}{L:LH}:A (I6 o::L) (ε aW 5 o.ad o.Η::Ρ gy o.Η::L):=A.OM
def FX{α:Type}{Β:α->LV}{sz Τ:Nat}{M:OA}{cap:Nat}{D:List α}{L R' : LH}[h:Pm L M α Β sz Τ cap D R']:∀θ Α w,Sat θ (L++Α) w->D.length<=cap:=λθ Α w s=>Sat.PW (L:=R'++Α) (s.perm (h.perm.append_right Α))
attribute [local irreducible] Δ R GP Ο h2 GF GE O Ef A8 A CB GB V.Enters bF Ix
abbrev Bu:=Uw [.ev 8]
abbrev Bt:List Im:=[.ev 0,.ev 1,.ev 2,.ev 4,.ev 5,.ev 6,.ev 7,.ev 8,.ev 9,.ev 10,.ev 11,.ev 12,.ev 13,.ev 14,.ef 3,.ef 15,.ev 16,.ev 17,.ev 18,.ev 19,.ev 20,.ev 21,.ev 22]
abbrev yC:=Ux [.ef 10]
abbrev yB:=Ux [.ef 10,.ef 11,.ev 12,.ev 13,.ef 14]
abbrev yA:=Uy [.ef 13,.ef 14]
abbrev yz:=Uw [.ev 8]
abbrev yy:=Uz [.ev 17]
abbrev yx:=Uz [.ev 17,.ef 18,.ef 19,.ev 20,.ev 21,.ef 22]
def bL{φ ψ:Prop}(k:ψ)(h:Hid ψ->φ:=by intro k;(with_reducible apply Δ.a8);first|refine Δ.dr 195 1 Bu (Hid.out k)|refine Δ.dr 195 4 Bt (Hid.out k)|refine Δ.dr 195 10 yC (Hid.out k)|refine Δ.dr 195 11 yB (Hid.out k)|refine Δ.dr 195 14 yA (Hid.out k)|refine Δ.dr 195 18 yz (Hid.out k)|refine Δ.dr 195 24 yy (Hid.out k)|refine Δ.dr 195 25 yx (Hid.out k)):φ:=h ⟨k⟩
def SP{φ ψ:Prop}(k:ψ)(h:Hid ψ->φ:=by intro k;(repeat (first|refine aa ?_|intro sh|refine bL ?_));(repeat revert sh);exact Hid.out k):φ:=h ⟨k⟩
def GU{L:LH}(wb:Nat)(Q:Int)(W:E4)(o:MK){c b ξ bU:Nat}(h:IX Q c b ξ bU W.m)(ho:PD Q o)(d6:N2 W)(hc:c<64)(hb:b+24<=2000)(hM:ξ<=100000000000)(hT:bU<=1000000) :
  Λ Ε 13 #[al wb,bh (dD o)] (I6 o::E6 wb Q W L) (λv Y=>∃W',v=.tuple #[E (NB Q o W.m).1.1,E (NB Q o W.m).1.2]/\(W'.m=(NB Q o W.m).2/\ML W W')/\Y = E6 wb Q W' L):=by
 have f0:(W.ν.length:Int)=Q:=by
  have:=h.len
  simp only[E4.m,ah] at this;exact this
 have f7:=ho.d
 have h7:W.ia.length<=ξ:=by
  have:=h.ml
  simp only[E4.m,ah] at this;exact this
 have c3:W.m.T.length=W.ia.length:=ah _;have g5:W.B9.length<=c:=h.il;have g0:0<=W.G/\W.G<=bU:=h.G;have f4:W.m.G=W.G:=rfl;have f2:W.m.B9=W.B9:=rfl;have hw:=ho.wait;have a2:=h.at ho.d;obtain⟨i,hi⟩:∃i,i=o.d.toNat:=⟨_,rfl⟩;have a6:i<W.ν.length:=B;obtain⟨s,hs⟩:∃s,W.ν[i]! = s:=⟨_,rfl⟩;have b7:s.d=o.d:=by have:=d6 i a6;rw[hs] at this;omega
 have d3:W.m.nd o.d=(s.n.m,s.S):=E4.a8 B (by rw[<-hi];exact hs);have e9:(W.ν.map (·.lb))[i]! = s.lb:=by rw[<-hs];exact dY (f:=λs:F5=>s.lb) a6
 have f6:(W.ν.map (·.nb))[i]! = s.nb:=by rw[<-hs];exact dY (f:=λs:F5=>s.nb) a6
 have h6:(W.ν.map (·.lb)).length=W.ν.length:=ah _;have h8:(W.ν.map (·.nb)).length=W.ν.length:=ah _;rw[d3] at a2;generalize hR:NB Q o W.m=Α;unfold NB at hR;rw[d3,f4,f2] at hR;refine Λ.bd ?_;refine Δ.υ Hq ?_;simp only[E6,G9];repeat first|refine Δ.sm 2 ?_|refine cR ?_|intro _|refine bL ?_
 rename_i bo;rw[<-hi,f6];simp only[dD];by_cases h0:o.Κ=0
 .rw[μ h0] at hR;have ha:=vQ ho.lg ho.len;have e5:=qO (ls:=o.Η.map (·.m)) (G:=W.G) (Ev:=W.G+o.wait) ho.d h.K4.2 a2.a (by have:=a2.ω;omega) a2.B5 ha g0.1 a2.bd hb;have f1:∀x∈o.Η,x.m.am.length<=1000:=λx K=>by have:=(ho.lg x K).len;omega
  have J:=ho.len;have e6:=a2.ω;have g4:0<=s.n.ω:=a2.a.KA.ω
  have e7:dV s.n.m.δ (o.d*4294967296+s.n.ω)=none:=by
   cases hg:dV s.n.m.δ (o.d*4294967296+s.n.ω) with
   | none=>rfl
   | some x =>
    have q:=a2.a.KA.fr _ (bT hg);have e:s.n.m.ω=s.n.ω:=rfl;dsimp only at q;omega
  refine SP ?_;intros;refine Ο.ca (BF o.ad o.Η.length o.fe o.Η rfl B) ?_;rintro _ _⟨ad,fe,rfl,rfl⟩;refine SP ?_;intros;refine Ο.υ ((A.at (Μ:=Υ aW 5 KT ad fe o.Η) A.JC).trans (A.at (Μ:=ew (Il Q) W.ν) (lj a6 hs))) ?_;rw[b7];refine Ο.υ (Y:=ε aW 5 ad o.Η::Ρ gy o.Η::a1 s.nb s.lb o.d Q s.n (aN s.lb s.S::(ew (Il Q) (W.ν.eraseIdx i)::obj wb KB [ae W.ad W.ν.length W.fe,ae W.F4 W.ν.length W.IM,ae W.cU W.ia.length W.fH,E W.G,ae W.F3 W.B9.length W.G3]::ε cI 1 W.ad (W.ν.map (·.lb))::ε cI 1 W.F4 (W.ν.map (·.nb))::G4 aV 3 hy W.cU W.fH W.ia::Ρ cV W.ia::Υ (a0 .i64) 1 kR W.F3 W.G3 W.B9::obj bo Jw [E o.Κ,E o.d,E o.n,ae o.ad o.Η.length o.fe,E o.wait]::L))) (by simp only[a1,cw];exact ag) ?_;refine Ο.ca (rM s.nb s.lb o.d Q ⟨ho.d.1,ho.d.2,h.K4.2⟩ s.n s.S H9 a2.a.hin a2.B5 (by have e:s.n.m.ω=s.n.ω:=rfl;dsimp only at e6;omega) ad o.Η.length fe o.Η rfl B f1 W.G (W.G+o.wait) (by have:=a2.bd;dsimp only at this;omega) e7) ?_;generalize fg o.d Q (o.Η.map (·.m)) W.G (W.G+o.wait) s.n.m s.S=cq at *;rintro _ _⟨d0,b3,ds,n',rfl,a7,b1,rfl⟩
  have d1:ds.length<=400000:=by
   have e:=congrArg List.length a7;rw[ah] at e;rcases e5 with⟨q,_⟩|⟨_,q⟩
   .rw[q] at e;dsimp only at e;rw[aX] at e;omega
   .have:=q.len;omega
  simp only[a1,cw];refine SP ?_;intros;refine R.ef (Ef.j7 (Β:=aV) (ys:=ds) rfl rfl rfl rfl rfl (λe _=>dG e) B B) ac ?_;rintro _ _⟨I,r,rfl,rfl⟩;refine SP ?_;intros;by_cases he:cq.1.2=0
  .rw[μ he] at hR;refine SP ?_;intros;refine R.ef (Ef.a8 (Β:=a0 .i64) (e:=cq.1.1) rfl rfl rfl rfl rfl aS (ga _ _) B B) ac ?_;rintro _ _⟨c6,b9,rfl,rfl⟩;refine SP ?_;intros;refine KX.a8 aw ?_ ⟨⟨W.ν.set i { s with n:=n',S:=cq.2.2.2 },W.ad,W.fe,W.F4,W.IM,W.ia++ds,I,r,W.G,W.B9++[cq.1.1],c6,b9⟩,by rw[<-hR];rfl,⟨?_,?_⟩,rfl⟩
   .refine(A.at (Μ:=Ρ cV ds) (A.refl _)).trans ?_;refine(A.at (Μ:=Ρ cV W.ia) (A.refl _)).trans ?_;refine(A.c9 (f:=cV) ed).trans ?_;refine A.trans ?_ (jC a6 hs n' _ _ _ _ _ _ _ _);rw[b7];simp only[a1,cw];exact ag
   .rw[<-hR,hi];have e:=E4.c7 (W:=W) (k:=o.d) (s:=s) n' cq.2.2.2 ds cq.2 a7 b1 rfl I r;dsimp only;rw[<-e];rfl
   .exact gQ _ hs _ rfl
  .rw[Ω he] at hR;refine SP ?_;intros;refine KX.a8 aw ?_ ⟨⟨W.ν.set i { s with n:=n',S:=cq.2.2.2 },W.ad,W.fe,W.F4,W.IM,W.ia++ds,I,r,W.G,W.B9,W.F3,W.G3⟩,by rw[<-hR];rfl,⟨?_,?_⟩,rfl⟩
   .refine(A.at (Μ:=Ρ cV ds) (A.refl _)).trans ?_;refine(A.at (Μ:=Ρ cV W.ia) (A.refl _)).trans ?_;refine(A.c9 (f:=cV) ed).trans ?_;refine A.trans ?_ (jC a6 hs n' _ _ _ _ _ _ _ _);rw[b7];simp only[a1,cw];exact ag
   .rw[<-hR,hi];have e:=E4.c7 (W:=W) (k:=o.d) (s:=s) n' cq.2.2.2 ds cq.2 a7 b1 rfl I r;dsimp only;rw[<-e];rfl
   .exact gQ _ hs _ rfl
 rw[Ω h0] at hR;by_cases h4:o.Κ=4
 .rw[μ h4] at hR;have e2:=ho.Sm h4;have d4:=lv (G:=W.G+o.wait) ho.d h.K4.2 a2.a a2.bd B;refine SP ?_;intros;refine Ο.υ (A.at (Μ:=ew (Il Q) W.ν) (lj a6 hs)) ?_;rw[b7];refine Ο.υ (Y:=a1 s.nb s.lb o.d Q s.n (aN s.lb s.S::(ew (Il Q) (W.ν.eraseIdx i)::obj wb KB [ae W.ad W.ν.length W.fe,ae W.F4 W.ν.length W.IM,ae W.cU W.ia.length W.fH,E (W.G+o.wait),ae W.F3 W.B9.length W.G3]::ε cI 1 W.ad (W.ν.map (·.lb))::ε cI 1 W.F4 (W.ν.map (·.nb))::G4 aV 3 hy W.cU W.fH W.ia::Ρ cV W.ia::Υ (a0 .i64) 1 kR W.F3 W.G3 W.B9::obj bo Jw [E o.Κ,E o.d,E o.n,ae o.ad o.Η.length o.fe,E o.wait]::ε aW 5 o.ad o.Η::Ρ gy o.Η::L))) (by simp only[a1,cw];exact ag) ?_;refine Ο.ca (pm s.nb s.lb o.d Q ho.d h.K4.2 s.n s.S H9 a2.a (by have:=a2.bd;dsimp only at this;omega) (W.G+o.wait)) ?_;dsimp only at d4 hR;generalize dK o.d (W.G+o.wait) s.n.m s.S=cq at *;rintro _ _⟨d0,b3,ds,n',rfl,a7,b1,rfl⟩
  have d1:ds.length<=600000000:=by
   have e:=congrArg List.length a7;have:=d4.len
   rw[ah] at e;omega
  simp only[a1,cw];refine SP ?_;intros;refine Ο.ef (Ef.j7 (Β:=aV) (ys:=ds) rfl rfl rfl rfl rfl (λe _=>dG e) B B) ac ?_;rintro _ _⟨I,r,rfl,rfl⟩;refine SP ?_;intros;refine KX.a8 aw ?_ ⟨⟨W.ν.set i { s with n:=n',S:=cq.2.2 },W.ad,W.fe,W.F4,W.IM,W.ia++ds,I,r,W.G+o.wait,W.B9,W.F3,W.G3⟩,by rw[<-hR];rfl,⟨?_,?_⟩,rfl⟩
  .refine(A.at (Μ:=Ρ cV ds) (A.refl _)).trans ?_;refine(A.at (Μ:=Ρ cV W.ia) (A.refl _)).trans ?_;refine(A.c9 (f:=cV) ed).trans ?_;refine A.trans ?_ (jC a6 hs n' _ _ _ _ _ _ _ _);rw[b7];simp only[a1,cw];exact ag
  .rw[<-hR,hi];have e:=E4.c7 (W:={ W with G:=W.G+o.wait }) (k:=o.d) (s:=s) n' cq.2.2 ds cq a7 b1 rfl I r;exact e
  .exact gQ _ hs _ rfl
 rw[Ω h4] at hR;by_cases h5:o.Κ=5
 .rw[μ h5] at hR;have e4:=a2.bd;dsimp only at e4;have b4:(W.ν.map (·.lb))[o.d.toNat]! = s.lb:=by rw[<-hi];exact e9
  refine SP ?_;intros;refine Ο.ca (As o ho.num W.G) ?_;rintro _ _⟨a9,rfl,rfl⟩;refine SP ?_;intros;refine Ο.υ (A.at (Μ:=ew (Il Q) W.ν) (lj a6 hs)) ?_;simp only[a1,cw];refine Ο.υ (Y:=aN ((W.ν.map (·.lb))[o.d.toNat]!) s.S::stM (iz o.n W.G a9)::IK (iz o.n W.G a9)::(obj s.nb B2 (cw s.lb s.d Q s.n.ω s.n.hl s.n.mb s.n.mp s.n.mr)::τ cu cc s.n.mb s.n.δ::ew F7 s.n.δ::τ cu cg s.n.mp s.n.Ζ::ew F2 s.n.Ζ::τ B7 bE s.n.mr (G8 s.n.C1)::ew (Il Q) (W.ν.eraseIdx i)::obj wb KB [ae W.ad W.ν.length W.fe,ae W.F4 W.ν.length W.IM,ae W.cU W.ia.length W.fH,E W.G,ae W.F3 W.B9.length W.G3]::ε cI 1 W.ad (W.ν.map (·.lb))::ε cI 1 W.F4 (W.ν.map (·.nb))::G4 aV 3 hy W.cU W.fH W.ia::Ρ cV W.ia::Υ (a0 .i64) 1 kR W.F3 W.G3 W.B9::L)) (by rw[b4];simp only[cw];exact ag) ?_;refine Ο.cr (jQ ((W.ν.map (·.lb))[o.d.toNat]!) s.S (gm s.S) a2.a.hin.Ik.a (by rw[a2.a.hin.Ik.ζ];exact a2.a.hin.Ik.ok) a2.a.hin.Ik.now (iz o.n W.G a9) (uG _ _ _).1 (uG _ _ _).2 (by show gm s.S+1<=2000;omega) qY) ?_;refine SP ?_;intros;refine KX.a8 aw ?_ ⟨⟨W.ν.set i { s with n:=s.n,S:=bP s.S (kq o.n W.G) },W.ad,W.fe,W.F4,W.IM,W.ia,W.cU,W.fH,W.G,W.B9,W.F3,W.G3⟩,by rw[<-hR];rfl,⟨?_,?_⟩,rfl⟩
  .rw[b4,show(iz o.n W.G a9).m=kq o.n W.G from rfl];refine A.trans ?_ (jC a6 hs s.n _ _ _ _ _ _ _ _);simp only[a1,cw];exact ag
  .rw[<-hR];unfold E4.m;dsimp only;rw[List.map_set,hi];rfl
  .exact gQ _ hs _ rfl
 rw[Ω h5] at hR;by_cases hz:W.ia.length=0
 .rw[μ (c3.trans hz)] at hR;have i0:(W.ia.length:Int)=0:=B;refine SP ?_;intros;refine KX.a8 aw ?_ ⟨W,by rw[<-hR];rfl,⟨by rw[<-hR],rfl⟩,rfl⟩;exact ag
 rw[Ω (λq=>hz (c3.symm.trans q))] at hR;have g3:(0:Int)<W.ia.length:=B;have e8:=dz o.n (B:(W.ia.length:Int)≠0);have g6:=cQ o.n g3;have h9:=ho.num;rw[c3] at hR;have d2:(o.n % (W.ia.length:Int)).toNat<W.ia.length:=B;have g7:0<=o.n % (W.ia.length:Int):=e8;generalize hk:o.n % (W.ia.length:Int)=k at *;have g2:W.m.T[k.toNat]! = W.ia[k.toNat]!.m:=dY (f:=λx:JQ=>x.m) d2;have b5:W.ia[k.toNat]!∈W.ia:=bA d2;have hX:NA Q W.ia[k.toNat]!.m:=h.T _ (Kg b5);rw[g2] at hR;repeat first|refine Δ.sm 20 ?_|refine cR ?_|intro _|refine bL ?_
 rename_i c0;rw[hk];refine Δ.υ (A.at (Μ:=Ρ cV W.ia) (A.d8 (f:=cV) b5)) ?_;generalize W.ia[k.toNat]! = x at *;refine Δ.c9 (FX (M:=W.cU) (D:=W.ia)) λc1=>?_;refine Δ.c7 (α:=OA×Nat×List JQ) (λg=>g.2.2=if o.Κ≠3 then W.ia.take k.toNat++W.ia.drop (k.toNat+1) else W.ia) (λg=>[(0,al wb),(3,al bo),(4,E 0),(5,E 0),(11,al c0)]) (λg=>obj wb KB [ae W.ad W.ν.length W.fe,ae W.F4 W.ν.length W.IM,ae g.1 g.2.2.length g.2.1,E W.G,ae W.F3 W.B9.length W.G3]::ε cI 1 W.ad (W.ν.map (·.lb))::ε cI 1 W.F4 (W.ν.map (·.nb))::G4 aV 3 hy g.1 g.2.1 g.2.2::Ρ cV g.2.2::Υ (a0 .i64) 1 kR W.F3 W.G3 W.B9::ew (Il Q) W.ν::obj c0 hy (aV x)::cV x::obj bo Jw [E o.Κ,E o.d,E o.n,ae o.ad o.Η.length o.fe,E o.wait]::L) ?_ ?_
 .by_cases h3:o.Κ=3
  .rw[Ω (λq=>q h3)];refine SP ?_;intros;exact⟨(W.cU,W.fH,W.ia),rfl,aA,by exact ag⟩
  .rw[μ h3];refine Δ.υ (A.c8 aV 3 hy) ?_;refine SP ?_;intros;refine R.ef (Ef.c9 (hq:=C7.take (D:=W.ia) inferInstance k.toNat) rfl rfl rfl rfl (by rw[aK];omega) (λe _=>dG e) (by rw[aX,aK];omega) (by rw[aX,aK];omega)) ac ?_;rintro _ _⟨I,r,rfl,rfl⟩;rw[ak];have e0:(W.ia.take k.toNat).length=k.toNat:=by rw[aK];omega
   refine SP ?_;intros;refine R.ef (Ef.c9 (D:=W.ia.take k.toNat) (hq:=C7.drop (D:=W.ia) inferInstance c1 (k+1).toNat) rfl rfl rfl rfl (by rw[ck]) (λe _=>dG e) (by rw[e0,ck];omega) (by rw[e0,ck];omega)) ac ?_;rintro _ _⟨a5,a3,rfl,rfl⟩;rw[show(k+1).toNat=k.toNat+1 by omega];refine SP ?_;intros;refine⟨(a5,a3,W.ia.take k.toNat++W.ia.drop (k.toNat+1)),rfl,aA,?_⟩;refine(A.at (Μ:=Υ aV 3 hy a5 a3 (W.ia.take k.toNat++W.ia.drop (k.toNat+1))) A.j7).trans ?_;refine(A.at (Μ:=Ρ cV W.ia) (A.g9 (l':=W.ia.take k.toNat++W.ia.drop (k.toNat+1)) λy Z=>tL Z)).trans ?_;exact ag
 rintro⟨I,r,ml⟩ b0;dsimp only at b0 ⊢
 have f3:ml.length<=W.ia.length:=by
  rw[b0];split
  .rw[aq,aK,ck];omega
  .exact au _
 have e1:(if o.Κ≠3 then(⟨W.m.IW,W.m.T.take k.toNat++W.m.T.drop (k.toNat+1),W.G,W.B9⟩:D2) else W.m)=⟨W.ν.map F5.m,ml.map (·.m),W.G,W.B9⟩:=by
  rw[b0];split
  .rw[aL,List.map_take,List.map_drop];rfl
  .rfl
 rw[e1] at hR;dsimp only at hR;have c5:=hX.x.to;have g1:x.m.to<W.ν.length:=B;by_cases U:o.Κ=2
 .rw[Ω (λq=>q.1 U)] at hR;refine SP ?_;intros;refine KX.a8 aw ?_ ⟨⟨W.ν,W.ad,W.fe,W.F4,W.IM,ml,I,r,W.G,W.B9,W.F3,W.G3⟩,by rw[<-hR];rfl,⟨by rw[<-hR];rfl,rfl⟩,rfl⟩;simp only[E6,G9];exact ag
 rw[μ ⟨U,c5⟩] at hR;obtain⟨j,hj⟩:∃j,j=x.m.to.toNat:=⟨_,rfl⟩;have c2:j<W.ν.length:=B;obtain⟨s2,b2⟩:∃s,W.ν[j]! = s:=⟨_,rfl⟩;have b8:s2.d=x.m.to:=by have:=d6 j c2;rw[b2] at this;omega
 have c4:W.m.nd x.m.to=(s2.n.m,s2.S):=E4.a8 B (by rw[<-hj];exact b2)
 have b6:(W.ν.map (·.nb))[x.m.to.toNat]! = s2.nb:=by
  rw[<-b2,hj];exact dY (f:=λs:F5=>s.nb) B
 have a4:=h.at c5;rw[c4] at a4 hR;dsimp only at hR;have d5:=ly (G:=W.G) c5 a4.a hX a4.bd hb;have ha:=hX.x.am;have e3:=a4.bd;dsimp only at e3 d5;refine SP ?_;intros;refine Ο.υ (A.at (Μ:=ew (Il Q) W.ν) (lj c2 b2)) ?_;rw[b8];refine Ο.υ (Y:=cV x::a1 ((W.ν.map (·.nb))[x.m.to.toNat]!) s2.lb x.m.to Q s2.n (aN s2.lb s2.S::(ew (Il Q) (W.ν.eraseIdx j)::obj wb KB [ae W.ad W.ν.length W.fe,ae W.F4 W.ν.length W.IM,ae I ml.length r,E W.G,ae W.F3 W.B9.length W.G3]::ε cI 1 W.ad (W.ν.map (·.lb))::ε cI 1 W.F4 (W.ν.map (·.nb))::G4 aV 3 hy I r ml::Ρ cV ml::Υ (a0 .i64) 1 kR W.F3 W.G3 W.B9::obj c0 hy (aV x)::L))) (by rw[b6];simp only[a1,cw];exact ag) ?_;refine Ο.ca (jN ((W.ν.map (·.nb))[x.m.to.toNat]!) s2.lb x.m.to Q s2.n s2.S H9 x hX.ct (by have:=hX.x.kd;omega) a4.a.hin B W.G) ?_;generalize cS x.m.to Q x.m W.G s2.n.m s2.S=cq at *;rintro _ _⟨d0,b3,ds,n',rfl,a7,b1,rfl⟩
 have d1:ds.length<=3300:=by
  have e:=congrArg List.length a7;have:=d5.len
  rw[ah] at e;omega
 simp only[a1,cw];refine SP ?_;intros;refine Ο.ef (Ef.j7 (Β:=aV) (ys:=ds) rfl rfl rfl rfl rfl (λe _=>dG e) B B) ac ?_;rintro _ _⟨a5,a3,rfl,rfl⟩;refine SP ?_;intros;rw[b6];refine KX.a8 aw ?_ ⟨⟨W.ν.set j { s2 with n:=n',S:=cq.2.2 },W.ad,W.fe,W.F4,W.IM,ml++ds,a5,a3,W.G,W.B9,W.F3,W.G3⟩,by rw[<-hR];rfl,⟨?_,?_⟩,rfl⟩
 .refine(A.at (Μ:=Ρ cV ds) (A.refl _)).trans ?_;refine(A.at (Μ:=Ρ cV ml) (A.refl _)).trans ?_;refine(A.c9 (f:=cV) ed).trans ?_;refine A.trans ?_ (jC c2 b2 n' _ _ _ _ _ _ _ _);rw[b8];simp only[a1,cw];exact ag
 .rw[<-hR,hj];exact E4.c7 (W:=⟨W.ν,W.ad,W.fe,W.F4,W.IM,ml,I,r,W.G,W.B9,W.F3,W.G3⟩) (k:=x.m.to) (s:=s2) n' cq.2.2 ds cq a7 b1 rfl a5 a3
 .exact gQ _ b2 _ rfl
