/- Exchanges: worlds in memory; an operation of the law. -/
import Derived.Test.YtlgpgjdggilkgaaGreatDoorEdbi
set_option linter.all false
set_option maxHeartbeats 16000000
namespace Go.Proofs.YtlgpgjdggilkgaaGreatDoor
open Go.V
abbrev Pz:Nat:=42
structure K2 where
 nb:Nat
 lb:Nat
 d:Int
 n:G2
 S:Τ
 deriving Inhabited
def K2.m(s:K2):ω×Τ:=(s.n.m,s.S)
def MN(F:Int)(s:K2):HP:=cw (fh s.nb s.lb s.d F s.n [aT s.lb s.S])
structure F6 where
 cO:List K2
 bD:OA
 id:Nat
 I7:OA
 M5:Nat
 x5:List N7
 gi:OA
 iM:Nat
 B:Int
 h1:List Int
 I6:OA
 K1:Nat
def F6.m(W:F6):jA:=⟨W.cO.map K2.m,W.x5.map (·.m),W.B,W.h1⟩
def du(b:Nat):χ:=[ay b]
def wO(b:Nat):∀u∈du b,u.oneCell' = true:=by simp[du,Value.oneCell']
def M0(W:F6):χ:=[ae W.bD W.cO.length W.id,ae W.I7 W.cO.length W.M5,ae W.gi W.x5.length W.iM,K W.B,ae W.I6 W.h1.length W.K1]
def F2(wb:Nat)(F:Int)(W:F6)(L:Ι):Ι:=obj wb Pz (M0 W)::τ du 1 W.bD (W.cO.map (·.lb))::τ du 1 W.I7 (W.cO.map (·.nb))::Ou be 3 B2 W.gi W.iM W.x5::η gO W.x5::μ (eU .i64) 1 C3 W.I6 W.K1 W.h1::h2 (MN F) W.cO::L
def RB(W W' : F6):Prop:=W'.cO.map (λs=>(s.lb,s.nb,s.d))=W.cO.map λs=>(s.lb,s.nb,s.d)
def Sy(W:F6):Prop:=∀i:Nat,i<W.cO.length->W.cO[i]!.d=(i:Int)
def EV{α:Type}[Inhabited α]{l:List α}{i:Nat}(h:i<l.length):l.Perm (l[i]!::l.eraseIdx i):=by
 rw[E7 h,List.eraseIdx_eq_take_drop_succ];have e:l.take i++l[i]::l.drop (i+1)=l:=by rw[<-bZ h,cL]
 have q:(l.take i++l[i]::l.drop (i+1)).Perm (l[i]::(l.take i++l.drop (i+1))):=dN;rw[e] at q;exact q
def HW{α:Type}{l:List α}{i:Nat}(h:i<l.length)(x:α):(l.set i x).Perm (x::l.eraseIdx i):=by
 rw[List.set_eq_take_append_cons_drop,Ω h,List.eraseIdx_eq_take_drop_succ];exact dN
def pm{F:Int}{cO:List K2}{i:Nat}(h:i<cO.length){s:K2}(hs:cO[i]! = s){L:Ι}:E (h2 (MN F) cO::L) (fh s.nb s.lb s.d F s.n (aT s.lb s.S::h2 (MN F) (cO.eraseIdx i)::L)):=by
 subst hs;exact(E.j8 (EV h)).trans (E.Vi.trans E.SL)
def XA{F:Int}{cO:List K2}{i:Nat}(h:i<cO.length){s:K2}(n:G2)(S:Τ){L:Ι}:E (fh s.nb s.lb s.d F n (aT s.lb S::h2 (MN F) (cO.eraseIdx i)::L)) (h2 (MN F) (cO.set i { s with n:=n,S:=S })::L) :=
 E.trans (E.trans (E.f8 (Φ:=fh s.nb s.lb s.d F n [aT s.lb S])) (E.Vh (f:=MN F) (x:={ s with n:=n,S:=S }))) (E.j8 (HW h _).symm)
def jk{β:Type}(f:K2->β){cO:List K2}{i:Nat}{s:K2}(hs:cO[i]! = s)(s' : K2)(h:f s' = f s):(cO.set i s').map f=cO.map f:=by
 rw[List.map_set,h,<-hs];by_cases hi:i<cO.length
 .rw[E7 hi];refine eX cg λk I Q=>?_;rw[List.getElem_set];split
  .rename_i q;subst q;simp
  .rfl
 .rw[List.set_eq_of_length_le ib]
def lu{wb:Nat}{F:Int}{W:F6}{i:Nat}(A:i<W.cO.length){s:K2}(hs:W.cO[i]! = s)(n' : G2)(S' : Τ)(x5:List N7)(gi:OA)(iM:Nat)(B:Int)(h1:List Int)(I6:OA)(K1:Nat){L:Ι} :
  E (obj wb Pz [ae W.bD W.cO.length W.id,ae W.I7 W.cO.length W.M5,ae gi x5.length iM,K B,ae I6 h1.length K1]::τ du 1 W.bD (W.cO.map (·.lb))::τ du 1 W.I7 (W.cO.map (·.nb))::Ou be 3 B2 gi iM x5::η gO x5::μ (eU .i64) 1 C3 I6 K1 h1::fh s.nb s.lb s.d F n' (aT s.lb S'::h2 (MN F) (W.cO.eraseIdx i)::L))
   (F2 wb F ⟨W.cO.set i { s with n:=n',S:=S' },W.bD,W.id,W.I7,W.M5,x5,gi,iM,B,h1,I6,K1⟩ L):=by
 have e1:(W.cO.set i { s with n:=n',S:=S' }).map (λs=>s.lb)=W.cO.map λs=>s.lb:=jk (λs=>s.lb) hs _ rfl;have e2:(W.cO.set i { s with n:=n',S:=S' }).map (λs=>s.nb)=W.cO.map λs=>s.nb:=jk (λs=>s.nb) hs _ rfl;simp only[F2,M0];rw[e1,e2,bU];exact E.a8 (E.a8 (E.a8 (E.a8 (E.a8 (E.a8 (XA A n' S'))))))
theorem F6.a8{W:F6}{k:Int}{s:K2}(hk:0<=k/\k<W.cO.length)(hs:W.cO[k.toNat]! = s):W.m.nd k=(s.n.m,s.S):=by
 subst hs;exact eZ (f:=K2.m) (l:=W.cO) (i:=k.toNat) D
theorem F6.c7{W:F6}{k:Int}{s:K2}(n:G2)(S:Τ)(ds:List N7)(Δ:L6)(I:ds.map (·.m)=Δ.1)(Q:n.m=Δ.2.1)(h3:S=Δ.2.2)(gi:OA)(iM:Nat):({ W with cO:=W.cO.set k.toNat { s with n:=n,S:=S },x5:=W.x5++ds,gi:=gi,iM:=iM }:F6).m=W.m.send k Δ:=by
 unfold jA.send F6.m;dsimp only;rw[List.map_set,aQ,I];congr 1;rw[<-Q,h3];rfl
def LH{o:Ph}{L:Ι}:E (UY o::L) (τ aZ 5 o.bD o.Α::η ms o.Α::L):=E.Uf
def JU{α:Type}{Η:α->χ}{sz ζ:Nat}{ad:OA}{cap:Nat}{G:List α}{L R' : Ι}[h:U0 L ad α Η sz ζ cap G R']:∀θ R w,Sat θ (L++R) w->G.length<=cap:=λθ R w s=>Sat.Wu (L:=R'++R) (s.perm (h.perm.append_right R))
attribute [local irreducible] Β Y GP δ vi GF GE Z Ef C0 E CB GB V.Enters bH K6
abbrev Er:=Yt [.ev 8]
abbrev Eq:List K3:=[.ev 0,.ev 1,.ev 2,.ev 4,.ev 5,.ev 6,.ev 7,.ev 8,.ev 9,.ev 10,.ev 11,.ev 12,.ev 13,.ev 14,.ef 3,.ef 15,.ev 16,.ev 17,.ev 18,.ev 19,.ev 20,.ev 21,.ev 22]
abbrev BE:=Yu [.ef 10]
abbrev BD:=Yu [.ef 10,.ef 11,.ev 12,.ev 13,.ef 14]
abbrev BC:=Yv [.ef 13,.ef 14]
abbrev BB:=Yt [.ev 8]
abbrev BA:=Yw [.ev 17]
abbrev Bz:=Yw [.ev 17,.ef 18,.ef 19,.ev 20,.ev 21,.ef 22]
def bP{φ ψ:Prop}(k:ψ)(h:Hid ψ->φ:=by intro k;(with_reducible apply Β.a8);first|refine Β.dr 195 1 Er (Hid.out k)|refine Β.dr 195 4 Eq (Hid.out k)|refine Β.dr 195 10 BE (Hid.out k)|refine Β.dr 195 11 BD (Hid.out k)|refine Β.dr 195 14 BC (Hid.out k)|refine Β.dr 195 18 BB (Hid.out k)|refine Β.dr 195 24 BA (Hid.out k)|refine Β.dr 195 25 Bz (Hid.out k)):φ:=h ⟨k⟩
def WX{φ ψ:Prop}(k:ψ)(h:Hid ψ->φ:=by intro k;(repeat (first|refine ab ?_|intro B8|refine bP ?_));(repeat revert B8);exact Hid.out k):φ:=h ⟨k⟩
def CU{L:Ι}(wb:Nat)(F:Int)(W:F6)(o:Ph){c b ο an:Nat}(h:F1 F c b ο an W.m)(ho:T0 F o)(d6:Sy W)(hc:c<64)(hb:b+24<=2000)(hM:ο<=100000000000)(hT:an<=1000000) :
  Υ Λ 13 #[ay wb,bC (EW o)] (UY o::F2 wb F W L) (λv Ε=>∃W',v=.tuple #[K (Ox F o W.m).1.1,K (Ox F o W.m).1.2]/\(W'.m=(Ox F o W.m).2/\RB W W')/\Ε = F2 wb F W' L):=by
 have f0:(W.cO.length:Int)=F:=by
  have:=h.len
  simp only[F6.m,ak] at this;exact this
 have f6:=ho.d
 have h7:W.x5.length<=ο:=by
  have:=h.ml
  simp only[F6.m,ak] at this;exact this
 have c3:W.m.O.length=W.x5.length:=ak _;have g5:W.h1.length<=c:=h.il;have g0:0<=W.B/\W.B<=an:=h.B;have f4:W.m.B=W.B:=rfl;have f2:W.m.h1=W.h1:=rfl;have hw:=ho.wait;have a2:=h.at ho.d;obtain⟨i,hi⟩:∃i,i=o.d.toNat:=⟨_,rfl⟩;have a6:i<W.cO.length:=D;obtain⟨s,hs⟩:∃s,W.cO[i]! = s:=⟨_,rfl⟩;have b7:s.d=o.d:=by have:=d6 i a6;rw[hs] at this;omega
 have d3:W.m.nd o.d=(s.n.m,s.S):=F6.a8 D (by rw[<-hi];exact hs);have e9:(W.cO.map (·.lb))[i]! = s.lb:=by rw[<-hs];exact eZ (f:=λs:K2=>s.lb) a6
 have f5:(W.cO.map (·.nb))[i]! = s.nb:=by rw[<-hs];exact eZ (f:=λs:K2=>s.nb) a6
 have h6:(W.cO.map (·.lb)).length=W.cO.length:=ak _;have h8:(W.cO.map (·.nb)).length=W.cO.length:=ak _;rw[d3] at a2;generalize hR:Ox F o W.m=R;unfold Ox at hR;rw[d3,f4,f2] at hR;refine Υ.bd ?_;refine Β.cM LH ?_;simp only[F2,M0];repeat first|refine Β.sm 2 ?_|refine dz ?_|intro _|refine bP ?_
 rename_i bo;rw[<-hi,f5];simp only[EW];by_cases h0:o.Ζ=0
 .rw[Ω h0] at hR;have ha:=sX ho.lg ho.len;have e5:=pU (ls:=o.Α.map (·.m)) (B:=W.B) (C7:=W.B+o.wait) ho.d h.MY.2 a2.a (by have:=a2.ν;omega) a2.B7 ha g0.1 a2.bd hb;have f1:∀x∈o.Α,x.m.am.length<=1000:=λx M=>by have:=(ho.lg x M).len;omega
  have I:=ho.len;have e6:=a2.ν;have g4:0<=s.n.ν:=a2.a.Ol.ν
  have e7:ε s.n.m.Ψ (o.d*4294967296+s.n.ν)=none:=by
   cases hg:ε s.n.m.Ψ (o.d*4294967296+s.n.ν) with
   | none=>rfl
   | some x =>
    have q:=a2.a.Ol.fr _ (bR hg);have e:s.n.m.ν=s.n.ν:=rfl;dsimp only at q;omega
  refine WX ?_;intros;refine δ.ca (EF o.bD o.Α.length o.id o.Α rfl D) ?_;rintro _ _⟨bD,id,rfl,rfl⟩;refine WX ?_;intros;refine δ.cM ((E.at (Φ:=μ aZ 5 Pv bD id o.Α) E.NZ).trans (E.at (Φ:=h2 (MN F) W.cO) (pm a6 hs))) ?_;rw[b7];refine δ.cM (Ε:=τ aZ 5 bD o.Α::η ms o.Α::fh s.nb s.lb o.d F s.n (aT s.lb s.S::(h2 (MN F) (W.cO.eraseIdx i)::obj wb Pz [ae W.bD W.cO.length W.id,ae W.I7 W.cO.length W.M5,ae W.gi W.x5.length W.iM,K W.B,ae W.I6 W.h1.length W.K1]::τ du 1 W.bD (W.cO.map (·.lb))::τ du 1 W.I7 (W.cO.map (·.nb))::Ou be 3 B2 W.gi W.iM W.x5::η gO W.x5::μ (eU .i64) 1 C3 W.I6 W.K1 W.h1::obj bo Ws [K o.Ζ,K o.d,K o.n,ae o.bD o.Α.length o.id,K o.wait]::L))) (by simp only[fh,hl];exact aj) ?_;refine δ.ca (uV s.nb s.lb o.d F ⟨ho.d.1,ho.d.2,h.MY.2⟩ s.n s.S I4 a2.a.hin a2.B7 (by have e:s.n.m.ν=s.n.ν:=rfl;dsimp only at e6;omega) bD o.Α.length id o.Α rfl D f1 W.B (W.B+o.wait) (by have:=a2.bd;dsimp only at this;omega) e7) ?_;generalize fO o.d F (o.Α.map (·.m)) W.B (W.B+o.wait) s.n.m s.S=hx at *;rintro _ _⟨d0,b3,ds,n',rfl,a7,b1,rfl⟩
  have d1:ds.length<=400000:=by
   have e:=congrArg List.length a7;rw[ak] at e;rcases e5 with⟨q,_⟩|⟨_,q⟩
   .rw[q] at e;dsimp only at e;rw[bq] at e;omega
   .have:=q.len;omega
  simp only[fh,hl];refine WX ?_;intros;refine Y.ef (Ef.j6 (Η:=be) (ys:=ds) rfl rfl rfl rfl rfl (λe _=>ec e) D D) ac ?_;rintro _ _⟨J,A,rfl,rfl⟩;refine WX ?_;intros;by_cases he:hx.1.2=0
  .rw[Ω he] at hR;refine WX ?_;intros;refine Y.ef (Ef.a8 (Η:=eU .i64) (e:=hx.1.1) rfl rfl rfl rfl rfl aY (iq _ _) D D) ac ?_;rintro _ _⟨c6,b9,rfl,rfl⟩;refine WX ?_;intros;refine KX.a8 aC ?_ ⟨⟨W.cO.set i { s with n:=n',S:=hx.2.2.2 },W.bD,W.id,W.I7,W.M5,W.x5++ds,J,A,W.B,W.h1++[hx.1.1],c6,b9⟩,by rw[<-hR];rfl,⟨?_,?_⟩,rfl⟩
   .refine(E.at (Φ:=η gO ds) (E.refl _)).trans ?_;refine(E.at (Φ:=η gO W.x5) (E.refl _)).trans ?_;refine(E.c9 (f:=gO) fj).trans ?_;refine E.trans ?_ (lu a6 hs n' _ _ _ _ _ _ _ _);rw[b7];simp only[fh,hl];exact aj
   .rw[<-hR,hi];have e:=F6.c7 (W:=W) (k:=o.d) (s:=s) n' hx.2.2.2 ds hx.2 a7 b1 rfl J A;dsimp only;rw[<-e];rfl
   .exact jk _ hs _ rfl
  .rw[Ο he] at hR;refine WX ?_;intros;refine KX.a8 aC ?_ ⟨⟨W.cO.set i { s with n:=n',S:=hx.2.2.2 },W.bD,W.id,W.I7,W.M5,W.x5++ds,J,A,W.B,W.h1,W.I6,W.K1⟩,by rw[<-hR];rfl,⟨?_,?_⟩,rfl⟩
   .refine(E.at (Φ:=η gO ds) (E.refl _)).trans ?_;refine(E.at (Φ:=η gO W.x5) (E.refl _)).trans ?_;refine(E.c9 (f:=gO) fj).trans ?_;refine E.trans ?_ (lu a6 hs n' _ _ _ _ _ _ _ _);rw[b7];simp only[fh,hl];exact aj
   .rw[<-hR,hi];have e:=F6.c7 (W:=W) (k:=o.d) (s:=s) n' hx.2.2.2 ds hx.2 a7 b1 rfl J A;dsimp only;rw[<-e];rfl
   .exact jk _ hs _ rfl
 rw[Ο h0] at hR;by_cases h4:o.Ζ=4
 .rw[Ω h4] at hR;have e2:=ho.Tw h4;have d4:=lm (B:=W.B+o.wait) ho.d h.MY.2 a2.a a2.bd D;refine WX ?_;intros;refine δ.cM (E.at (Φ:=h2 (MN F) W.cO) (pm a6 hs)) ?_;rw[b7];refine δ.cM (Ε:=fh s.nb s.lb o.d F s.n (aT s.lb s.S::(h2 (MN F) (W.cO.eraseIdx i)::obj wb Pz [ae W.bD W.cO.length W.id,ae W.I7 W.cO.length W.M5,ae W.gi W.x5.length W.iM,K (W.B+o.wait),ae W.I6 W.h1.length W.K1]::τ du 1 W.bD (W.cO.map (·.lb))::τ du 1 W.I7 (W.cO.map (·.nb))::Ou be 3 B2 W.gi W.iM W.x5::η gO W.x5::μ (eU .i64) 1 C3 W.I6 W.K1 W.h1::obj bo Ws [K o.Ζ,K o.d,K o.n,ae o.bD o.Α.length o.id,K o.wait]::τ aZ 5 o.bD o.Α::η ms o.Α::L))) (by simp only[fh,hl];exact aj) ?_;refine δ.ca (rj s.nb s.lb o.d F ho.d h.MY.2 s.n s.S I4 a2.a (by have:=a2.bd;dsimp only at this;omega) (W.B+o.wait)) ?_;dsimp only at d4 hR;generalize cU o.d (W.B+o.wait) s.n.m s.S=hx at *;rintro _ _⟨d0,b3,ds,n',rfl,a7,b1,rfl⟩
  have d1:ds.length<=600000000:=by
   have e:=congrArg List.length a7;have:=d4.len
   rw[ak] at e;omega
  simp only[fh,hl];refine WX ?_;intros;refine δ.ef (Ef.j6 (Η:=be) (ys:=ds) rfl rfl rfl rfl rfl (λe _=>ec e) D D) ac ?_;rintro _ _⟨J,A,rfl,rfl⟩;refine WX ?_;intros;refine KX.a8 aC ?_ ⟨⟨W.cO.set i { s with n:=n',S:=hx.2.2 },W.bD,W.id,W.I7,W.M5,W.x5++ds,J,A,W.B+o.wait,W.h1,W.I6,W.K1⟩,by rw[<-hR];rfl,⟨?_,?_⟩,rfl⟩
  .refine(E.at (Φ:=η gO ds) (E.refl _)).trans ?_;refine(E.at (Φ:=η gO W.x5) (E.refl _)).trans ?_;refine(E.c9 (f:=gO) fj).trans ?_;refine E.trans ?_ (lu a6 hs n' _ _ _ _ _ _ _ _);rw[b7];simp only[fh,hl];exact aj
  .rw[<-hR,hi];have e:=F6.c7 (W:={ W with B:=W.B+o.wait }) (k:=o.d) (s:=s) n' hx.2.2 ds hx a7 b1 rfl J A;exact e
  .exact jk _ hs _ rfl
 rw[Ο h4] at hR;by_cases h5:o.Ζ=5
 .rw[Ω h5] at hR;have e4:=a2.bd;dsimp only at e4;have b4:(W.cO.map (·.lb))[o.d.toNat]! = s.lb:=by rw[<-hi];exact e9
  refine WX ?_;intros;refine δ.ca (Dw o ho.num W.B) ?_;rintro _ _⟨a9,rfl,rfl⟩;refine WX ?_;intros;refine δ.cM (E.at (Φ:=h2 (MN F) W.cO) (pm a6 hs)) ?_;simp only[fh,hl];refine δ.cM (Ε:=aT ((W.cO.map (·.lb))[o.d.toNat]!) s.S::stM (jj o.n W.B a9)::Nb (jj o.n W.B a9)::(obj s.nb C5 (hl s.lb s.d F s.n.ν s.n.T s.n.mb s.n.mp s.n.mr)::ew gT cz s.n.mb s.n.Ψ::h2 I2 s.n.Ψ::ew gT cC s.n.mp s.n.Γ::h2 H6 s.n.Γ::ew D6 bM s.n.mr (J7 s.n.wk)::h2 (MN F) (W.cO.eraseIdx i)::obj wb Pz [ae W.bD W.cO.length W.id,ae W.I7 W.cO.length W.M5,ae W.gi W.x5.length W.iM,K W.B,ae W.I6 W.h1.length W.K1]::τ du 1 W.bD (W.cO.map (·.lb))::τ du 1 W.I7 (W.cO.map (·.nb))::Ou be 3 B2 W.gi W.iM W.x5::η gO W.x5::μ (eU .i64) 1 C3 W.I6 W.K1 W.h1::L)) (by rw[b4];simp only[hl];exact aj) ?_;refine δ.cr (kX ((W.cO.map (·.lb))[o.d.toNat]!) s.S (ey s.S) a2.a.hin.J1.a (by rw[a2.a.hin.J1.υ];exact a2.a.hin.J1.ok) a2.a.hin.J1.now (jj o.n W.B a9) (xX _ _ _).1 (xX _ _ _).2 (by show ey s.S+1<=2000;omega) tY) ?_;refine WX ?_;intros;refine KX.a8 aC ?_ ⟨⟨W.cO.set i { s with n:=s.n,S:=bN s.S (mD o.n W.B) },W.bD,W.id,W.I7,W.M5,W.x5,W.gi,W.iM,W.B,W.h1,W.I6,W.K1⟩,by rw[<-hR];rfl,⟨?_,?_⟩,rfl⟩
  .rw[b4,show(jj o.n W.B a9).m=mD o.n W.B from rfl];refine E.trans ?_ (lu a6 hs s.n _ _ _ _ _ _ _ _);simp only[fh,hl];exact aj
  .rw[<-hR];unfold F6.m;dsimp only;rw[List.map_set,hi];rfl
  .exact jk _ hs _ rfl
 rw[Ο h5] at hR;by_cases hz:W.x5.length=0
 .rw[Ω (c3.trans hz)] at hR;have i0:(W.x5.length:Int)=0:=D;refine WX ?_;intros;refine KX.a8 aC ?_ ⟨W,by rw[<-hR];rfl,⟨by rw[<-hR],rfl⟩,rfl⟩;exact aj
 rw[Ο (λq=>hz (c3.symm.trans q))] at hR;have g3:(0:Int)<W.x5.length:=D;have e8:=ft o.n (D:(W.x5.length:Int)≠0);have g6:=dA o.n g3;have h9:=ho.num;rw[c3] at hR;have d2:(o.n % (W.x5.length:Int)).toNat<W.x5.length:=D;have g7:0<=o.n % (W.x5.length:Int):=e8;generalize hk:o.n % (W.x5.length:Int)=k at *;have g2:W.m.O[k.toNat]! = W.x5[k.toNat]!.m:=eZ (f:=λx:N7=>x.m) d2;have b5:W.x5[k.toNat]!∈W.x5:=bI d2;have hX:S4 F W.x5[k.toNat]!.m:=h.O _ (O6 b5);rw[g2] at hR;repeat first|refine Β.sm 20 ?_|refine dz ?_|intro _|refine bP ?_
 rename_i c0;rw[hk];refine Β.cM (E.at (Φ:=η gO W.x5) (E.d8 (f:=gO) b5)) ?_;generalize W.x5[k.toNat]! = x at *;refine Β.c8 (JU (ad:=W.gi) (G:=W.x5)) λc1=>?_;refine Β.c7 (α:=OA×Nat×List N7) (λg=>g.2.2=if o.Ζ≠3 then W.x5.take k.toNat++W.x5.drop (k.toNat+1) else W.x5) (λg=>[(0,ay wb),(3,ay bo),(4,K 0),(5,K 0),(11,ay c0)]) (λg=>obj wb Pz [ae W.bD W.cO.length W.id,ae W.I7 W.cO.length W.M5,ae g.1 g.2.2.length g.2.1,K W.B,ae W.I6 W.h1.length W.K1]::τ du 1 W.bD (W.cO.map (·.lb))::τ du 1 W.I7 (W.cO.map (·.nb))::Ou be 3 B2 g.1 g.2.1 g.2.2::η gO g.2.2::μ (eU .i64) 1 C3 W.I6 W.K1 W.h1::h2 (MN F) W.cO::obj c0 B2 (be x)::gO x::obj bo Ws [K o.Ζ,K o.d,K o.n,ae o.bD o.Α.length o.id,K o.wait]::L) ?_ ?_
 .by_cases h3:o.Ζ=3
  .rw[Ο (λq=>q h3)];refine WX ?_;intros;exact⟨(W.gi,W.iM,W.x5),rfl,aG,by exact aj⟩
  .rw[Ω h3];refine Β.cM (E.c8 be 3 B2) ?_;refine WX ?_;intros;refine Y.ef (Ef.c9 (hq:=F5.take (G:=W.x5) inferInstance k.toNat) rfl rfl rfl rfl (by rw[aP];omega) (λe _=>ec e) (by rw[bq,aP];omega) (by rw[bq,aP];omega)) ac ?_;rintro _ _⟨J,A,rfl,rfl⟩;rw[av];have e0:(W.x5.take k.toNat).length=k.toNat:=by rw[aP];omega
   refine WX ?_;intros;refine Y.ef (Ef.c9 (G:=W.x5.take k.toNat) (hq:=F5.drop (G:=W.x5) inferInstance c1 (k+1).toNat) rfl rfl rfl rfl (by rw[cB]) (λe _=>ec e) (by rw[e0,cB];omega) (by rw[e0,cB];omega)) ac ?_;rintro _ _⟨a5,a3,rfl,rfl⟩;rw[show(k+1).toNat=k.toNat+1 by omega];refine WX ?_;intros;refine⟨(a5,a3,W.x5.take k.toNat++W.x5.drop (k.toNat+1)),rfl,aG,?_⟩;refine(E.at (Φ:=μ be 3 B2 a5 a3 (W.x5.take k.toNat++W.x5.drop (k.toNat+1))) E.k9).trans ?_;refine(E.at (Φ:=η gO W.x5) (E.g9 (l':=W.x5.take k.toNat++W.x5.drop (k.toNat+1)) λy U=>wZ U)).trans ?_;exact aj
 rintro⟨J,A,ml⟩ b0;dsimp only at b0 ⊢
 have f3:ml.length<=W.x5.length:=by
  rw[b0];split
  .rw[aA,aP,cB];omega
  .exact ax _
 have e1:(if o.Ζ≠3 then(⟨W.m.D8,W.m.O.take k.toNat++W.m.O.drop (k.toNat+1),W.B,W.h1⟩:jA) else W.m)=⟨W.cO.map K2.m,ml.map (·.m),W.B,W.h1⟩:=by
  rw[b0];split
  .rw[aQ,List.map_take,List.map_drop];rfl
  .rfl
 rw[e1] at hR;dsimp only at hR;have c5:=hX.x.to;have g1:x.m.to<W.cO.length:=D;by_cases Q:o.Ζ=2
 .rw[Ο (λq=>q.1 Q)] at hR;refine WX ?_;intros;refine KX.a8 aC ?_ ⟨⟨W.cO,W.bD,W.id,W.I7,W.M5,ml,J,A,W.B,W.h1,W.I6,W.K1⟩,by rw[<-hR];rfl,⟨by rw[<-hR];rfl,rfl⟩,rfl⟩;simp only[F2,M0];exact aj
 rw[Ω ⟨Q,c5⟩] at hR;obtain⟨j,hj⟩:∃j,j=x.m.to.toNat:=⟨_,rfl⟩;have c2:j<W.cO.length:=D;obtain⟨s2,b2⟩:∃s,W.cO[j]! = s:=⟨_,rfl⟩;have b8:s2.d=x.m.to:=by have:=d6 j c2;rw[b2] at this;omega
 have c4:W.m.nd x.m.to=(s2.n.m,s2.S):=F6.a8 D (by rw[<-hj];exact b2)
 have b6:(W.cO.map (·.nb))[x.m.to.toNat]! = s2.nb:=by
  rw[<-b2,hj];exact eZ (f:=λs:K2=>s.nb) D
 have a4:=h.at c5;rw[c4] at a4 hR;dsimp only at hR;have d5:=oH (B:=W.B) c5 a4.a hX a4.bd hb;have ha:=hX.x.am;have e3:=a4.bd;dsimp only at e3 d5;refine WX ?_;intros;refine δ.cM (E.at (Φ:=h2 (MN F) W.cO) (pm c2 b2)) ?_;rw[b8];refine δ.cM (Ε:=gO x::fh ((W.cO.map (·.nb))[x.m.to.toNat]!) s2.lb x.m.to F s2.n (aT s2.lb s2.S::(h2 (MN F) (W.cO.eraseIdx j)::obj wb Pz [ae W.bD W.cO.length W.id,ae W.I7 W.cO.length W.M5,ae J ml.length A,K W.B,ae W.I6 W.h1.length W.K1]::τ du 1 W.bD (W.cO.map (·.lb))::τ du 1 W.I7 (W.cO.map (·.nb))::Ou be 3 B2 J A ml::η gO ml::μ (eU .i64) 1 C3 W.I6 W.K1 W.h1::obj c0 B2 (be x)::L))) (by rw[b6];simp only[fh,hl];exact aj) ?_;refine δ.ca (qA ((W.cO.map (·.nb))[x.m.to.toNat]!) s2.lb x.m.to F s2.n s2.S I4 x hX.ct (by have:=hX.x.kd;omega) a4.a.hin D W.B) ?_;generalize dM x.m.to F x.m W.B s2.n.m s2.S=hx at *;rintro _ _⟨d0,b3,ds,n',rfl,a7,b1,rfl⟩
 have d1:ds.length<=3300:=by
  have e:=congrArg List.length a7;have:=d5.len
  rw[ak] at e;omega
 simp only[fh,hl];refine WX ?_;intros;refine δ.ef (Ef.j6 (Η:=be) (ys:=ds) rfl rfl rfl rfl rfl (λe _=>ec e) D D) ac ?_;rintro _ _⟨a5,a3,rfl,rfl⟩;refine WX ?_;intros;rw[b6];refine KX.a8 aC ?_ ⟨⟨W.cO.set j { s2 with n:=n',S:=hx.2.2 },W.bD,W.id,W.I7,W.M5,ml++ds,a5,a3,W.B,W.h1,W.I6,W.K1⟩,by rw[<-hR];rfl,⟨?_,?_⟩,rfl⟩
 .refine(E.at (Φ:=η gO ds) (E.refl _)).trans ?_;refine(E.at (Φ:=η gO ml) (E.refl _)).trans ?_;refine(E.c9 (f:=gO) fj).trans ?_;refine E.trans ?_ (lu c2 b2 n' _ _ _ _ _ _ _ _);rw[b8];simp only[fh,hl];exact aj
 .rw[<-hR,hj];exact F6.c7 (W:=⟨W.cO,W.bD,W.id,W.I7,W.M5,ml,J,A,W.B,W.h1,W.I6,W.K1⟩) (k:=x.m.to) (s:=s2) n' hx.2.2 ds hx a7 b1 rfl a5 a3
 .exact jk _ b2 _ rfl
