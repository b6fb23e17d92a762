/- Lemmas. -/
import Derived.Test.YtlgpgjdggilkgaaGreatDoorErbs
set_option linter.all false
namespace Go.Proofs.YtlgpgjdggilkgaaGreatDoor
section
open Go.V
structure M9 (n:Int) (W:D2):Prop where
 nd:∀i:Int,0<=i/\i<n->L4 i (W.nd i).1
 T:∀y∈W.T,KW y
def M9.send{n:Int}{W:D2}(h:M9 n W)(hl:(W.IW.length:Int)=n){d:Int}(hs:0<=d/\d<n){Θ:Ja}(J:L4 d Θ.2.1)(U:∀y∈Θ.1,KW y):M9 n (W.send d Θ):=by
 refine⟨λi hi=>?_,λy Z=>?_⟩
 .have e:(W.send d Θ).nd i=if i=d then(Θ.2.1,Θ.2.2) else W.nd i:=by
   unfold D2.send D2.nd;dsimp only;have q:=rh (W:=W) (i:=d.toNat) (j:=i.toNat) (x:=(Θ.2.1,Θ.2.2)) B;rw[q];by_cases z:i=d
   .rw[μ z,μ B]
   .rw[Ω z,Ω B]
  rw[e];split
  .rename_i z;rw[z];exact J
  .exact h.nd i hi
 .rcases It Z with Z|Z
  .exact h.T y Z
  .exact U y Z
def RA{d Q G:Int}{x:xs}{N:eu}{S:Χ}:KN N (cS d Q x G N S).2.1/\(L4 d N->∀y∈(cS d Q x G N S).1,KW y):=by
 unfold cS;split
 .obtain⟨J,U⟩:=wj (d:=d) (ms:=x.Ψ) (G:=G) (m:=x.ct) (N:=N) (S:=S);obtain⟨h3,h4⟩:=mY (d:=d) (G:=G) (bk d x.Ψ x.ct G N S).1 (bk d x.Ψ x.ct G N S).2.1 (bk d x.Ψ x.ct G N S).2.2;exact⟨J.trans h3,λhN=>h4 (U hN) (J.hm hN)⟩
 .exact⟨.refl _,λ_ y Z=>by cases Z⟩
def Er{d F G:Int}{x:J7}(h:db F=d):∀y∈(eH d F x G).1,KW y:=by
 unfold eH;split
 .exact jD λ_=>h
 .split
  .exact jD λ_=>h
  .exact jD λ_=>h
def zq{d F cB Φ G:Int}:∀{os:List B0} {S:Χ},∀y∈(Is (Iz d F cB Φ G) os S).1,y.ct.Κ=5
 | [],_,y,Z=>by cases Z
 | o::os,S,y,Z=>by
  rcases It Z with Z|Z
  .unfold Iz at Z;split at Z
   .rw[D6 Z];rfl
   .exact(uj y Z).2
  .exact zq y Z
def GY{d G F:Int}{N:eu}{S:Χ}:KN N (JS d G F N S).2.1/\(L4 d N->∀y∈(JS d G F N S).1,KW y):=by
 unfold JS;split
 .rename_i x K;obtain⟨h3,h4⟩:=mY (d:=d) (G:=G) (eH d F x G).1 { N with δ:=fc N.δ F (eH d F x G).2 } S;have hb:KN N { N with δ:=fc N.δ F (eH d F x G).2 }:=.set K λhd=>by unfold eH;rw[μ hd];exact hd
  exact⟨hb.trans h3,λhN=>h4 (Er (hN F x K)) (hb.hm hN)⟩
 .exact⟨.refl _,λ_ y Z=>by cases Z⟩
def GZ{d G F:Int}{N:eu}{S:Χ}:KN N (KV d G F N S).2.1/\(L4 d N->∀y∈(KV d G F N S).1,KW y):=by
 unfold KV;split
 .split
  .exact⟨.same rfl,λ_ y Z=>.Κ (by rw[zq y Z];decide)⟩
  .exact⟨.refl _,λ_ y Z=>by cases Z⟩
 .exact⟨.refl _,λ_ y Z=>by cases Z⟩
def za{d G:Int}{N:eu}{S:Χ}:KN N (dK d G N S).2.1/\(L4 d N->∀y∈(dK d G N S).1,KW y):=by
 have h:=nQ (d:=d) (P:=λ_:Int=>True) (f:=Ms d G) (λF N S=>by
  obtain⟨I,a2⟩:=GY (d:=d) (G:=G) (F:=F) (N:=N) (S:=S);obtain⟨b1,b2⟩:=GZ (d:=d) (G:=G) (F:=F) (N:=(JS d G F N S).2.1) (S:=(JS d G F N S).2.2);refine⟨I.trans b1,λ_ hN y Z=>?_⟩;rcases It Z with Z|Z
  .exact a2 hN y Z
  .exact b2 (I.hm hN) y Z) (fy N) N S
 exact⟨h.1,h.2 λ_ _=>trivial⟩
def Ea{d Q G Ev:Int}{ls:List G7}{N:eu}{S:Χ}(hc:0<=N.ω/\N.ω<4294967296)(hN:L4 d N):L4 d (fg d Q ls G Ev N S).2.2.1/\∀y∈(fg d Q ls G Ev N S).2.1,KW y:=by
 unfold fg;split
 .exact⟨hN,λy Z=>by cases Z⟩
 split
 .exact⟨hN,λy Z=>by cases Z⟩
 dsimp only;have r:db (d*4294967296+N.ω)=d:=by unfold db;omega
 refine⟨(mY _ _ _).1.hm ?_,(mY _ _ _).2 (jD λ_=>r) ?_⟩
 all_goals
  intro k x K
  dsimp only at K
  rw[dg] at K
  split at K
  .rename_i z;rw[z];exact r
  .exact hN k x K
def HC{n:Int}{c b ξ bU:Nat}{W:D2}(hW:IX n c b ξ bU W)(hc:c<=1000){o:MK}(ho:PD n o)(h:M9 n W):M9 n (NB n o W).2:=by
 have hl:=hW.len;have hN:=h.nd o.d ho.d;unfold NB;split
 .have I:=hW.at ho.d;obtain⟨J,U⟩:=Ea (Q:=n) (G:=W.G) (Ev:=W.G+o.wait) (ls:=o.Η.map (·.m)) (S:=(W.nd o.d).2) ⟨I.a.KA.ω,by have:=I.ω;omega⟩ hN;have q:=h.send hl ho.d J U;exact⟨q.nd,q.T⟩
 split
 .obtain⟨J,U⟩:=za (d:=o.d) (G:=W.G+o.wait) (N:=(W.nd o.d).1) (S:=(W.nd o.d).2);exact M9.send (W:={ W with G:=W.G+o.wait }) ⟨h.nd,h.T⟩ hl ho.d (J.hm hN) (U hN)
 split
 .have q:=M9.send (Θ:=([],(W.nd o.d).1,bP (W.nd o.d).2 (kq o.n W.G))) h hl ho.d hN (λy Z=>by cases Z);exact⟨q.nd,h.T⟩
 split
 .exact h
 rename_i hz;dsimp only
 have hk:(o.n % (W.T.length:Int)).toNat<W.T.length:=by
  have:=dz o.n (B:(W.T.length:Int)≠0)
  have:=cQ o.n (B:0<(W.T.length:Int))
  omega
 obtain⟨W1,r⟩:∃W1,(if o.Κ≠3 then { W with T:=W.T.take (o.n % (W.T.length:Int)).toNat++W.T.drop ((o.n % (W.T.length:Int)).toNat+1) } else W)=W1:=⟨_,rfl⟩
 have J:M9 n W1/\(W1.IW.length:Int)=n/\W1.IW=W.IW:=by
  rw[<-r];split
  .refine⟨⟨h.nd,λy Z=>h.T y ?_⟩,hl,rfl⟩;rcases It Z with Z|Z
   .exact cl Z
   .exact dC Z
  .exact⟨h,hl,rfl⟩
 rw[r];split
 .rename_i q;have hm:=RA (d:=W.T[(o.n % (W.T.length:Int)).toNat]!.to) (Q:=n) (G:=W.G) (x:=W.T[(o.n % (W.T.length:Int)).toNat]!) (N:=(W.nd W.T[(o.n % (W.T.length:Int)).toNat]!.to).1) (S:=(W.nd W.T[(o.n % (W.T.length:Int)).toNat]!.to).2);exact J.1.send J.2.1 q.2 (hm.1.hm (h.nd _ q.2)) (hm.2 (h.nd _ q.2))
 .exact J.1
attribute [local irreducible] Δ R GP Ο h2 GF GE O Ef A8 A CB GB V.Enters bF Ix
abbrev Bq:=Ux [.ev 10,.ef 11,.ev 12,.ev 13,.ev 14,.ev 15,.ev 16,.ev 17,.ev 18,.ev 19,.ev 20,.ev 21,.ev 22,.ev 23,.ev 24,.ev 25,.ev 26,.ev 27,.ev 28]
def TE{φ ψ:Prop}(k:ψ)(h:Hid ψ->φ:=by intro k;(repeat (first|refine aa ?_|intro sh|refine Δ.dr 43 1 Bq ?_));(repeat revert sh);exact Hid.out k):φ:=h ⟨k⟩
def lW{L:LH}(nb lb:Nat)(d Q:Int)(n:E0)(f t G:Int) :
  Λ Ε 38 #[al nb,.agg #[E f,E t,ae none 0 0],E G] (a1 nb lb d Q n L) (C9 (ae none 0 0) (a1 nb lb d Q n L)):=by
 refine Λ.bd ?_;simp only[a1,cw];by_cases ht:t=d
 case neg =>
  refine TE ?_;intros;exact KX.en ⟨rfl,rfl⟩
 refine TE ?_;intros;rename_i b4;refine Ο.υ (Y:=obj nb B2 [al lb,E d,E Q,E n.ω,E n.hl,.map (some n.mb),.map (some n.mp),.map (some n.mr)]::(obj b4 hy [E f,E t,ae none 0 0]::τ cu cc n.mb n.δ::ew F7 n.δ::τ cu cg n.mp n.Ζ::ew F2 n.Ζ::τ B7 bE n.mr (G8 n.C1)::L)) ag ?_;refine Ο.cr (lL nb lb d Q n.ω n.hl n.mb n.mp n.mr f) ?_;simp only[cw];by_cases r:0<=f/\f<Q
 case neg =>
  rw[bj r];refine TE ?_;intros;exact KX.en ⟨rfl,rfl⟩
 rw[bI r];by_cases I:f=d
 .refine TE ?_;intros;exact KX.en ⟨rfl,rfl⟩
 .refine TE ?_;intros;exact KX.en ⟨rfl,rfl⟩
end
section
open Go.V
def KO(wb:Nat)(Q:Int)(W:E4)(k:Nat)(s:F5)(L:LH):LH:=aN s.lb s.S::ew (Il Q) (W.ν.eraseIdx k)::obj wb KB (G9 W)::ε cI 1 W.ad (W.ν.map (·.lb))::ε cI 1 W.F4 (W.ν.map (·.nb))::G4 aV 3 hy W.cU W.fH W.ia::Ρ cV W.ia::Υ (a0 .i64) 1 kR W.F3 W.G3 W.B9::L
def mO{wb:Nat}{Q:Int}{W:E4}{k:Nat}(hk:k<W.ν.length){s:F5}(hs:W.ν[k]! = s){L:LH}:A (E6 wb Q W L) (a1 s.nb s.lb s.d Q s.n (KO wb Q W k s L)):=by
 unfold E6 KO;refine(A.at (Μ:=ew (Il Q) W.ν) (lj hk hs)).trans ?_;simp only[a1,cw,G9];exact ag
def mP{wb:Nat}{Q:Int}{W:E4}{k:Nat}(hk:k<W.ν.length){s:F5}(hs:W.ν[k]! = s){L:LH}:A (a1 s.nb s.lb s.d Q s.n (KO wb Q W k s L)) (E6 wb Q W L):=by
 unfold E6 KO;refine(Hk hk hs).trans ?_;simp only[G9];exact ag
def FU{wb:Nat}{Q:Int}{W:E4}{k:Nat}(hk:k<W.ν.length){s:F5}(hs:W.ν[k]! = s){L:LH}:A (E6 wb Q W L) (aN s.lb s.S::a1 s.nb s.lb s.d Q s.n (KO wb Q W k s L).tail):=by
 refine(mO hk hs).trans ?_;simp only[KO,a1,cw,List.tail_cons];exact ag
def HO{wb:Nat}{Q:Int}{W:E4}{k:Nat}(hk:k<W.ν.length){s:F5}(hs:W.ν[k]! = s)(n' : E0)(S' : Χ){L:LH}:A (a1 s.nb s.lb s.d Q n' (aN s.lb S'::(KO wb Q W k s L).tail)) (E6 wb Q { W with ν:=W.ν.set k { s with n:=n',S:=S' } } L):=by
 refine A.trans ?_ (jC hk hs n' S' W.ia W.cU W.fH W.G W.B9 W.F3 W.G3);simp only[KO,List.tail_cons,a1,cw,G9];exact ag
def IU.view{ζ:D4}{d:Int}{N:eu}{S:Χ}(h:IU ζ d N S)(v:OA×List E8)(w:OA×List JX):IU ζ d N (S.view v w) :=
 ⟨⟨.view v w h.Ik.rep,h.Ik.a.view v w,h.Ik.now,h.Ik.ζ,h.Ik.ok,h.Ik.d⟩,h.hl,h.nd,h.No,h.pts⟩
def KM.view{d Q:Int}{c b:Nat}{N:eu}{S:Χ}(h:KM d Q c b (N,S))(v:OA×List E8)(w:OA×List JX):KM d Q c b (N,S.view v w) :=
 ⟨⟨h.a.hin.view v w,h.a.KA,h.a.sv⟩,h.bd,h.ω⟩
def Fj(S:Χ)(v:OA×List E8)(w:OA×List JX)(Κ G:Int)(T:List A9):IG (S.view v w) Κ G T=IG S Κ G T:=rfl
theorem CE{Q:Int}{c b ξ bU:Nat}{W:D2}(h:IX Q c b ξ bU W){x:xs}(K:NA Q x)(I:0<=x.to/\x.to<Q)(hb:b+24<=2000):IX Q c (b+24) (ξ+600000000) bU (W.send x.to (cS x.to Q x W.G (W.nd x.to).1 (W.nd x.to).2)):=by
 have r:=h.at I;have hr:=ly (G:=W.G) I r.a K r.bd hb;exact((h.mono (au _) (Nat.le_add_right b 24) (au _) (au _)).send I ⟨hr.nd,hr.bd,by have e:=hr.ω;have:=r.ω;grind⟩ hr.T hr.len).mono (au _) (au _) B (au _)
def MM(wb:Nat)(Q:Int)(W:E4)(k:Nat)(s:F5)(n' : E0)(L:LH):LH:=a1 s.nb s.lb s.d Q n' (ew (Il Q) (W.ν.eraseIdx k)::obj wb KB (G9 W)::ε cI 1 W.ad (W.ν.map (·.lb))::ε cI 1 W.F4 (W.ν.map (·.nb))::G4 aV 3 hy W.cU W.fH W.ia::Ρ cV W.ia::Υ (a0 .i64) 1 kR W.F3 W.G3 W.B9::L)
def Cs{wb:Nat}{Q:Int}{W:E4}{k:Nat}(hk:k<W.ν.length){s:F5}(hs:W.ν[k]! = s)(n' : E0)(S' : Χ){L:LH}:A (aN s.lb S'::MM wb Q W k s n' L) (E6 wb Q { W with ν:=W.ν.set k { s with n:=n',S:=S' } } L):=by
 refine A.trans ?_ (HO hk hs n' S');simp only[MM,KO,List.tail_cons,a1,cw,G9];exact ag
def FT{wb:Nat}{Q:Int}{W:E4}{k:Nat}(hk:k<W.ν.length){s:F5}(hs:W.ν[k]! = s){L:LH}:A (E6 wb Q W L) (aN s.lb s.S::MM wb Q W k s s.n L):=by
 refine(FU hk hs).trans ?_;simp only[MM,KO,List.tail_cons,a1,cw,G9];exact ag
def zB:∀{T:List A9} {u:A9},u∈T->u.Ζ.length<=C2 T
 | m::T,u,h=>by
  have e:C2 (m::T)=(m.Ζ.length+1)+C2 T:=rfl;rcases Jr h with rfl|h
  .omega
  .have:=zB h
   omega
def M0.mv{d:Int}{c:D4}{S:Χ}(h:M0 d c S):∀s∈S.hx,s.cM.length<=64/\C2 s.cM<=gm S:=by
 induction h with
 | zero=>exact λs hs=>iW hs aD
 | view v w _ ih=>exact ih
 | @post S s _ h0 ih =>
  have hp:=iv h0;have e1:bP S s=eX S s:=μ h0;have e2:(bP S s).hx=S.hx++[s.at (cp S)]:=by rw[e1];rfl
  have ek:gm (bP S s)=gm S+C2 s.cM:=by rw[iC,μ h0]
  intro u hu;rw[e2] at hu;rcases It hu with hu|hu
  .have:=ih u hu
   exact⟨this.1,B⟩
  .rw[D6 hu];exact⟨hp.2.2.2.1.2,by show C2 s.cM<=_;omega⟩
def KM.Ik{d Q:Int}{c b:Nat}{N:eu}{S:Χ}(h:KM d Q c b (N,S))(hs:0<=d/\d<12)(hb:b<=1500):(MX (gm S) S/\gm S<=4096)/\(nV S.ο S.Ι/\S.Ι.length<=100000)/\∀s∈S.hx,s.cM.length<=64/\∀u∈s.cM,u.Ζ.length<=1000000:=by
 have hk:=h.bd;dsimp only at hk;obtain⟨i1,i2,i3⟩:=h.a.hin.Ik.rep.all hs (B:gm S<=2000);have hf:=i1.g.Ι;dsimp only at i1 i2 i3 hf;refine⟨⟨i1.g,B⟩,⟨i2.src,B⟩,λs hs=>?_⟩;obtain⟨J,U⟩:=h.a.hin.Ik.rep.mv s hs;exact⟨J,λu hu=>by have:=zB hu;dsimp only at U;omega⟩
