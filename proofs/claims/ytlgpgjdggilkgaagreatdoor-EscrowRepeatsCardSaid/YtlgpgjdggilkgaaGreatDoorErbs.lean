/- Lemmas. -/
import Derived.Test.YtlgpgjdggilkgaaGreatDoorErbr
set_option linter.all false
set_option maxHeartbeats 1000000
namespace Go.Proofs.YtlgpgjdggilkgaaGreatDoor
section
open Go.V
def Ou.of{g g' : Gh}{d F:Int}{o:B0}(h:Ou g d F o)(hG:g'.Δ=g.Δ)(hX:g'.X (F,o.eZ)=g.X (F,o.eZ)):Ou g' d F o :=
 ⟨(me hG _).trans h.lg,h.d,λq=>hX.trans (h.x0 q),λq=>hX.trans (h.x1 q)⟩
theorem LN.of{g g' : Gh}{y:xs}(h:LN g y)(hG:g'.Δ=g.Δ)(hm:∀k fl,g.X k=some fl->g'.X k=some fl):LN g' y :=
 ⟨λq=>by rw[hG];exact h.pr q,λq=>by
  obtain⟨l,J,U,h3,h4⟩:=h.tr q;grind [me]⟩
theorem LN.none{g:Gh}{y:xs}(J:¬y.ct.Κ=1)(h5:¬y.ct.Κ=5):LN g y:=⟨B,B⟩
structure Sw (g:Gh) (d F:Int) (rv:List (Int×Int)) (o:B0) (Θ:List xs×B0×Χ) (g' : Gh):Prop where
 Δ:g'.Δ=g.Δ
 ne:∀k,k≠(F,o.eZ)->g'.X k=g.X k
 mono:∀k fl,g.X k=some fl->g'.X k=some fl
 gh:Ot g'
 ls:NI g' d rv Θ.2.2
 ix:Θ.2.1.eZ=o.eZ
 ow:Ou g' d F Θ.2.1
 T:∀y∈Θ.1,LN g' y
def Sw.same{g:Gh}{d F:Int}{rv:List (Int×Int)}{o o' : B0}{S S' : Χ}{T:List xs}(hg:Ot g)(h:NI g d rv S')(ho:Ou g d F o')(hi:o'.eZ=o.eZ)(hm:∀y∈T,LN g y):Sw g d F rv o (T,o',S') g :=
 ⟨rfl,λ_ _=>rfl,λ_ _ q=>q,hg,h,hi,ho,hm⟩
structure Uh (g:Gh) (d F:Int) (rv:List (Int×Int)) (os:List B0) (Θ:List xs×List B0×Χ) (g' : Gh):Prop where
 Δ:g'.Δ=g.Δ
 ne:∀k,(k.1=F->k.2∉os.map (·.eZ))->g'.X k=g.X k
 mono:∀k fl,g.X k=some fl->g'.X k=some fl
 gh:Ot g'
 ls:NI g' d rv Θ.2.2
 ix:Θ.2.1.map (·.eZ)=os.map (·.eZ)
 ow:∀o∈Θ.2.1,Ou g' d F o
 T:∀y∈Θ.1,LN g' y
structure Lu (g:Gh) (d:Int) (N:eu) (S:Χ):Prop where
 ls:NI g d N.C1 S
 bg:∀F x,dV N.δ F=some x->g.Δ F=some x.Η
 pt:∀F p,dV N.Ζ F=some p->(∀o∈p.Η,Ou g d F o)/\(p.Η.map (·.eZ)).Nodup
 has:∀k l,g.bB k=some l->l.d=d->g.X k≠none->dV N.Ζ k.1≠none
structure M8 (d:Int) (g g' : Gh):Prop where
 Δ:g'.Δ=g.Δ
 mono:∀k fl,g.X k=some fl->g'.X k=some fl
 QJ:∀k l,g.bB k=some l->l.d≠d->g'.X k=g.X k
theorem M8.refl(d:Int)(g:Gh):M8 d g g:=⟨rfl,λ_ _ q=>q,ay⟩
def M8.trans{d:Int}{g g1 g2:Gh}(h:M8 d g g1)(k:M8 d g1 g2):M8 d g g2 :=
 ⟨k.Δ.trans h.Δ,λa b q=>k.mono a b (h.mono a b q),λa l q1 q2=>(k.QJ a l ((me h.Δ a).trans q1) q2).trans (h.QJ a l q1 q2)⟩
def Ov(g:Gh)(d:Int)(Θ:Ja):Prop:=∃g',M8 d g g'/\Ot g'/\Lu g' d Θ.2.1 Θ.2.2/\∀y∈Θ.1,LN g' y
def Ov.same{g:Gh}{d:Int}{T:List xs}{N:eu}{S:Χ}(hg:Ot g)(h:Lu g d N S)(hm:∀y∈T,LN g y):Ov g d (T,N,S):=⟨g,M8.refl d g,hg,h,hm⟩
theorem Lu.Kd{g:Gh}{d:Int}{N:eu}{S:Χ}(h:Lu g d N S){F:Int}{x:J7}(K:g.Δ F=some x.Η){c:Int}:Lu g d { N with ω:=c,δ:=fc N.δ F x } S :=
 ⟨h.ls,λj y q=>by
  have q:dV (fc N.δ F x) j=some y:=q;rw[dg] at q;by_cases e:j=F
  .grind
  .rw[Ω e] at q;exact h.bg j y q,h.pt,h.has⟩
theorem Lu.Ky{g:Gh}{d:Int}{N:eu}{S S' : Χ}(h:Lu g d N S)(hS:NI g d N.C1 S'){F:Int}{p:Lb}(hp:(∀o∈p.Η,Ou g d F o)/\(p.Η.map (·.eZ)).Nodup){c:Int}:Lu g d { N with hl:=c,Ζ:=fc N.Ζ F p } S' :=
 ⟨hS,h.bg,λj y q=>by
  have q:dV (fc N.Ζ F p) j=some y:=q;rw[dg] at q;by_cases e:j=F
  .grind
  .rw[Ω e] at q;exact h.pt j y q,λk l q1 q2 q3=>by
  show dV (fc N.Ζ F p) k.1≠none;rw[dg];by_cases e:k.1=F
  .grind
  .rw[Ω e];exact h.has k l q1 q2 q3⟩
theorem Lu.run{g g' : Gh}{d:Int}{N:eu}{S:Χ}(h:Lu g d N S){F:Int}{p:Lb}(hp:dV N.Ζ F=some p){Θ:List xs×List B0×Χ}(hr:Uh g d F N.C1 p.Η Θ g'){st:Int}:M8 d g g'/\Lu g' d { N with Ζ:=fc N.Ζ F ⟨st,p.Φ,Θ.2.1⟩ } Θ.2.2:=by
 obtain⟨p1,p2⟩:=h.pt F p hp;refine⟨⟨hr.Δ,hr.mono,λk l q1 q2=>hr.ne k λe m=>?_⟩,⟨hr.ls,λj y q=>by rw[hr.Δ];exact h.bg j y q,λj y q=>?_,λk l q1 q2 q3=>?_⟩⟩
 .obtain⟨o,ho,e2⟩:=IY m;have q3:=(p1 o ho).lg;rw[show(F,o.eZ)=k from Prod.ext e.symm e2,q1] at q3;rw[O9 q3] at q2;exact q2 (p1 o ho).d
 .have q:dV (fc N.Ζ F ⟨st,p.Φ,Θ.2.1⟩) j=some y:=q;rw[dg] at q;by_cases e:j=F
  .rw[μ e] at q;rw[<-O9 q,e];exact⟨hr.ow,by show(Θ.2.1.map (·.eZ)).Nodup;rw[hr.ix];exact p2⟩
  .rw[Ω e] at q;obtain⟨r1,r2⟩:=h.pt j y q;exact⟨λo ho=>(r1 o ho).of hr.Δ (hr.ne _ B),r2⟩
 .show dV (fc N.Ζ F ⟨st,p.Φ,Θ.2.1⟩) k.1≠none;rw[dg];by_cases e:k.1=F
  .grind
  .rw[Ω e];rw[hr.ne k B] at q3;exact h.has k l ((me hr.Δ k).symm.trans q1) q2 q3
def LN.ext{d:Int}(g g' : Gh)(y:xs)(h:M8 d g g')(q:LN g y):LN g' y:=q.of h.Δ h.mono
def Ov.then{g:Gh}{d:Int}{Θ r2:Ja}(h:Ov g d Θ)(hk:∀g',Ot g'->Lu g' d Θ.2.1 Θ.2.2->(∀y∈Θ.1,LN g' y)->Ov g' d r2):Ov g d r2:=by
 obtain⟨g1,q1,q2,q3,q4⟩:=h;obtain⟨g2,p1,p2,p3,p4⟩:=hk g1 q2 q3 q4;exact⟨g2,q1.trans p1,p2,p3,p4⟩
theorem Lu.ext{g g' : Gh}{i d:Int}{N:eu}{S:Χ}(h:Lu g i N S)(K:M8 d g g')(hi:i≠d):Lu g' i N S:=by
 have hX:∀k l,g'.bB k=some l->l.d=i->g'.X k=g.X k:=λk l q e=>K.QJ k l ((me K.Δ k).symm.trans q) B;have hL:∀k,g'.bB k=g.bB k:=me K.Δ;refine⟨⟨h.ls.Ik,λk l fl q1 q2 q3=>?_,h.ls.nd,λk hk=>?_,?_⟩,λF x q=>by rw[K.Δ];exact h.bg F x q,λF p q=>?_,λk l q1 q2 q3=>?_⟩
 .rw[hX k l q1 q2] at q3;exact h.ls.exp k l fl ay q2 q3
 .obtain⟨l,fl,q1,q2,q3⟩:=h.ls.rc k hk;exact⟨l,fl,(hL k).trans q1,q2,K.mono k fl q3⟩
 .rw[h.ls.imp];exact(h.ls.C0 K.Δ K.mono).symm
 .obtain⟨p1,p2⟩:=h.pt F p q;exact⟨λo ho=>(p1 o ho).of K.Δ (hX _ o.bB ((hL _).trans (p1 o ho).lg) (p1 o ho).d),p2⟩
 .rw[hX k l q1 q2] at q3;exact h.has k l ay q2 q3
structure Np (Q:Int) (g:Gh) (W:D2):Prop where
 gh:Ot g
 nd:∀i:Int,0<=i/\i<Q->Lu g i (W.nd i).1 (W.nd i).2
 T:∀y∈W.T,LN g y
 D:∀k fl l,g.X k=some fl->g.bB k=some l->0<=l.d/\l.d<Q
def Ow(Q:Int)(Δ:Int->Option (List G7))(W:D2):Prop:=∀F ls,Δ F=some ls->∃i c:Int,((0<=i/\i<Q)/\F=i*4294967296+c)/\0<=c/\c<(W.nd i).1.ω
theorem Da{W:D2}{d i:Int}{x:eu×Χ}{Q:Int}(hl:(W.IW.length:Int)=Q)(hs:0<=d/\d<Q)(hi:0<=i/\i<Q):({ W with IW:=W.IW.set d.toNat x }:D2).nd i=if i=d then x else W.nd i:=by
 grind [D2.nd]
theorem Np.put{Q:Int}{g g' : Gh}{W:D2}(h:Np Q g W)(hl:(W.IW.length:Int)=Q){d:Int}(hs:0<=d/\d<Q){N:eu}{S:Χ}(K:M8 d g g')(hg:Ot g')(hN:Lu g' d N S){T:List xs}(hm:∀y∈T,LN g' y):Np Q g' { W with IW:=W.IW.set d.toNat (N,S),T:=W.T++T }:=by
 refine⟨hg,λi hi=>?_,λy Z=>?_,λk fl l q1 q2=>?_⟩
 .have e:({ W with IW:=W.IW.set d.toNat (N,S),T:=W.T++T }:D2).nd i=if i=d then(N,S) else W.nd i:=Da (W:=W) hl hs hi;rw[e];by_cases q:i=d
  .grind
  .rw[Ω q];exact(h.nd i hi).ext K q
 .rcases It Z with Z|Z
  .exact LN.ext g g' y K (h.T y Z)
  grind
 .by_cases e:l.d=d
  .omega
  .have q3:=(me K.Δ k).symm.trans q2;rw[K.QJ k l q3 e] at q1;exact h.D k fl l q1 q3
def Np.send{Q:Int}{g:Gh}{W:D2}(h:Np Q g W)(hl:(W.IW.length:Int)=Q){d:Int}(hs:0<=d/\d<Q){Θ:Ja}(hr:Ov g d Θ):∃g',g'.Δ=g.Δ/\Np Q g' (W.send d Θ):=by
 obtain⟨g',q1,q2,q3,q4⟩:=hr;exact⟨g',q1.Δ,h.put hl hs q1 q2 q3 q4⟩
theorem Ow.put{Q:Int}{Δ:Int->Option (List G7)}{W W' : D2}(h:Ow Q Δ W)(hl:(W.IW.length:Int)=Q){d:Int}(hs:0<=d/\d<Q){x:eu×Χ}(hc:(W.nd d).1.ω<=x.1.ω)(hW:W'.IW=W.IW.set d.toNat x):Ow Q Δ W':=λF ls q=>by
 obtain⟨i,c,⟨q1,q2⟩,q3,q4⟩:=h F ls q;refine⟨i,c,⟨q1,q2⟩,q3,?_⟩;grind [D2.nd]
def Np.drop{Q:Int}{g:Gh}{W:D2}(h:Np Q g W){W' : D2}(hn:W'.IW=W.IW)(hm:∀y∈W'.T,y∈W.T):Np Q g W' :=
 ⟨h.gh,λi hi=>by
  have e:W'.nd i=W.nd i:=by unfold D2.nd;rw[hn]
  rw[e];exact h.nd i hi,λy Z=>h.T y (hm y Z),h.D⟩
theorem Ow.same{Q:Int}{Δ:Int->Option (List G7)}{W W' : D2}(h:Ow Q Δ W)(hn:W'.IW=W.IW):Ow Q Δ W':=λF ls q=>by
 obtain⟨i,c,q1,q2,q3⟩:=h F ls q;have e:W'.nd i=W.nd i:=by unfold D2.nd;rw[hn]
 exact⟨i,c,q1,q2,ay⟩
def Sx(Q:Int)(W:D2):Prop:=∃g,Np Q g W/\Ow Q g.Δ W
def Ru(l:List (eu×Χ)):LL:=l.flatMap λp=>du p.2.Ι
def Rv(l:List (eu×Χ)):LL:=l.flatMap λp=>M7 p.2.Ι
structure X9 (l:List (eu×Χ)):Prop where
 vi:gH (Ru l)
 ai:Iu (Ru l)
 vo:gH (Rv l)
 ao:Iu (Rv l)
 wi:jB (Ru l) (Rv l)
 gr:∀p∈l,∀x,p.2.gr x=M6 x p.2.Ι
 aT:∀p∈l,∀f∈p.2.Ι,0<=f.aT/\f.aT<4
 fk:∀p∈l,p.2.Ι.length<=gm p.2
 fn:∀p∈l,∀f∈p.2.Ι,1<=f.n/\f.n<=1099511627776
def DG{d:Int}:∀{ss:List C8} {S:Χ},N3 d S->du S.Ι=[]->(∀s∈ss,s.Κ=0)->N3 d (ss.foldl bP S)/\du (ss.foldl bP S).Ι=[]
 | [],S,h,hi,_=>⟨h,hi⟩
 | s::ss,S,h,hi,hk=>by
  have k0:=hk s az;obtain⟨q1,_,q3,_⟩:=Dh (s:=s) h (by rw[k0];decide) (by rw[k0];decide) (by rw[k0];decide);rw[List.foldl_cons];exact DG q1 (q3.trans hi) λx K=>hk x (aB _ K)
def Hu(i:Int):N3 i (I2 i H9):=⟨rfl,rfl,⟨au _,aC _⟩,aC _,λ_=>rfl,λf hf=>iW hf aD⟩
def QD.Sy{l:List Int}{i:Nat}{s:F5}(h:QD l i s):Lu ⟨λ_=>none,λ_=>none⟩ i s.n.m s.S:=by
 obtain⟨ss,J,U⟩:=h.sp.run;obtain⟨q1,q2⟩:=DG (Hu (i:Int)) rfl λs hs=>(J s hs).1;rw[<-U] at q1 q2;rw[h.n];exact⟨⟨q1,λk l fl _ _ q=>iW q (λe=>by cases e),List.nodup_nil,λk hk=>iW hk aD,q2⟩,λF x q=>iW q (λe=>by cases e),λF p q=>iW q (λe=>by cases e),λk l _ _ q=>iW rfl q⟩
def O7.cv{n:Int}{l:List Int}{W:E4}(h:O7 n l W):Sx n W.m:=by
 have hl:=h.len;refine⟨⟨λ_=>none,λ_=>none⟩,⟨⟨λk fl q=>iW q (λe=>by cases e),λk k' a b q=>iW q (λe=>by cases e)⟩,λi hi=>?_,λy Z=>?_,λk fl l q=>iW q (λe=>by cases e)⟩,λF ls q=>iW q (λe=>by cases e)⟩
 .have r:i.toNat<W.ν.length:=B;have e:W.m.nd i=W.ν[i.toNat]!.m:=dY (f:=F5.m) r;have q:=(h.sd i.toNat r).Sy;rw[show((i.toNat:Nat):Int)=i by omega] at q;rw[e];exact q
 .have Z:y∈W.ia.map (·.m):=Z;rw[h.T] at Z;cases Z
attribute [local irreducible] Δ R GP Ο h2 GF GE O Ef A8 A CB GB V.Enters bF Ix
abbrev Br:=Uw [.ev 8]
def Tz{φ ψ:Prop}(k:ψ)(h:Hid ψ->φ:=by intro k;(repeat (first|refine aa ?_|intro sh|refine Δ.dr 26 6 Br ?_));(repeat revert sh);exact Hid.out k):φ:=h ⟨k⟩
def sb{L:LH}(r I:OA)(n1 n2 c1 c2:Nat)(D ys:List Int)[C7 L r Int (a0 .i64) 1 D][C7 L I Int (a0 .i64) 1 ys](J:n1=D.length)(U:n2=ys.length)(hl:D.length<=9223372036854775807) :
  Λ Ε 16 #[ae r n1 c1,ae I n2 c2] L (C9 (.bool (dB (D=ys))) L):=by
 subst J U;refine Λ.bd ?_;by_cases he:D.length=ys.length
 case neg =>
  rw[bj (λh:D=ys=>he (by rw[h]))];refine Tz ?_;intros;exact KX.en ⟨rfl,rfl⟩
 refine Tz ?_;intros;refine Δ.loop (α:=Nat) (λi=>i<=D.length/\D.take i=ys.take i) (λi=>[(0,ae r D.length c1),(1,ae I ys.length c2),(5,E (i:Int))]) (λ_=>L) (λi=>D.length - i) 0 ⟨aC _,by simp⟩ aA (A.refl _) ?_;rintro i ⟨hi,ht⟩;by_cases a2:i<D.length
 case neg =>
  have e:D=ys:=by
   rw[aG B,aG B] at ht;exact ht
  rw[bI e];refine Tz ?_;intros;exact KX.en ⟨rfl,rfl⟩
 have a3:(i:Int).toNat=i:=B;by_cases e:D[(i:Int).toNat]! = ys[(i:Int).toNat]!
 .refine Tz ?_;intros;refine⟨i+1,⟨B,?_⟩,B,?_,A.refl _⟩
  .rw[a3] at e;rw[av a2,av B,ht];rw[C5 a2,C5 (B:i<ys.length)] at e;rw[e]
  .rw[bC i];exact aA
 .rw[bj (λh:D=ys=>e (by rw[h]))];refine Tz ?_;intros;exact KX.en ⟨rfl,rfl⟩
end
section
open Go.V
def Hk{Q:Int}{ν:List F5}{i:Nat}(h:i<ν.length){s:F5}(hs:ν[i]! = s){L:LH}:A (a1 s.nb s.lb s.d Q s.n (aN s.lb s.S::ew (Il Q) (ν.eraseIdx i)::L)) (ew (Il Q) ν::L):=by
 have q:=Sp (Q:=Q) h (s:=s) s.n s.S (L:=L)
 have e:ν.set i { s with n:=s.n,S:=s.S }=ν:=by
  subst hs;rw[C5 h];exact List.set_getElem_self h
 rw[e] at q;exact q
attribute [local irreducible] Δ R GP Ο h2 GF GE O Ef A8 A CB GB V.Enters bF Ix
end
section
open Go.V
theorem zm{α:Type}{f f' : α->Nat}:∀{l:List α},(∀x∈l,f' x<=f x)->(l.map f').sum<=(l.map f).sum
 | [],_=>au _
 | a::l,h=>by
  have:=zm λx K=>h x (aB _ K)
  grind
def vR(g:Gh)(F:Int):List G7:=(g.Δ F).getD []
def nP(g:Gh)(Α:List Int)(N:eu):Nat:=(Α.map λF=>if(dV N.Ζ F).isNone=true then 2*Kh (vR g F) else 0).sum
def Ui(ls:List G7)(i F:Int)(rv:List (Int×Int))(j:Nat):Nat:=if ls[j]!.ts=i/\¬(F,(j:Int))∈rv then 2*ls[j]!.am.length else 0
def Uj(ls:List G7)(i F:Int)(rv:List (Int×Int)):Nat:=((List.range ls.length).map (Ui ls i F rv)).sum
def nR(g:Gh)(Α:List Int)(i:Int)(rv:List (Int×Int)):Nat:=(Α.map λF=>Uj (vR g F) i F rv).sum
def pn(g:Gh)(Α:List Int)(i:Int)(N:eu)(S:Χ):Nat:=gm S+E9 N+nP g Α N+nR g Α i N.C1
def Uk{g g' : Gh}(h:g'.Δ=g.Δ)(Α:List Int)(i:Int)(N:eu)(S:Χ):pn g' Α i N S=pn g Α i N S:=by
 unfold pn nP nR vR;rw[h]
structure N4 (g:Gh) (Α:List Int) (d:Int) (N:eu) (S:Χ) (Θ:Ja):Prop where
 le:pn g Α d Θ.2.1 Θ.2.2<=pn g Α d N S
 np:(Θ.2.1.Ζ.map (·.1)).Nodup
theorem FK{g:Gh}{Α:List Int}{N:eu}{F:Int}{q:Lb}{c:Int}:nP g Α { N with hl:=c,Ζ:=fc N.Ζ F q }<=nP g Α N:=by
 unfold nP;refine zm λx _=>?_;grind [dg]
def N4.same{g:Gh}{Α:List Int}{d:Int}{N:eu}{S:Χ}{T:List xs}(h:(N.Ζ.map (·.1)).Nodup):N4 g Α d N S (T,N,S):=⟨au _,h⟩
def N4.Kd{g:Gh}{Α:List Int}{d:Int}{N:eu}{S:Χ}{T:List xs}(h:(N.Ζ.map (·.1)).Nodup){c:Int}{b:List (Int×J7)}:N4 g Α d N S (T,{ N with ω:=c,δ:=b },S):=⟨au _,h⟩
def N4.Ky{g:Gh}{Α:List Int}{d:Int}{N:eu}{S S' : Χ}{T:List xs}(h:(N.Ζ.map (·.1)).Nodup){F:Int}{p q:Lb}(hp:dV N.Ζ F=some p)(hk:gm S' + cy q.Η<=gm S+cy p.Η):N4 g Α d N S (T,{ N with Ζ:=fc N.Ζ F q },S'):=by
 refine⟨?_,gY h⟩;have J:=pA (q:=q) h hp;have U:=FK (g:=g) (Α:=Α) (N:=N) (F:=F) (q:=q) (c:=N.hl);show gm S' + E9 { N with Ζ:=fc N.Ζ F q }+nP g Α { N with Ζ:=fc N.Ζ F q }+nR g Α d N.C1<=gm S+E9 N+nP g Α N+nR g Α d N.C1;omega
theorem N4.none{g:Gh}{Α:List Int}{d:Int}{N:eu}{S:Χ}{T:List xs}(h:(N.Ζ.map (·.1)).Nodup){F:Int}{st Φ:Int}(hp:dV N.Ζ F=none):N4 g Α d N S (T,{ N with Ζ:=fc N.Ζ F ⟨st,Φ,[]⟩ },S):=by
 refine⟨?_,gY h⟩;have J:=pB (q:=⟨st,Φ,[]⟩) h hp;have h3:nP g Α { N with Ζ:=fc N.Ζ F ⟨st,Φ,[]⟩ }<=nP g Α N:=FK (c:=N.hl);show gm S+E9 { N with Ζ:=fc N.Ζ F ⟨st,Φ,[]⟩ }+nP g Α { N with Ζ:=fc N.Ζ F ⟨st,Φ,[]⟩ }+nR g Α d N.C1<=gm S+E9 N+nP g Α N+nR g Α d N.C1;grind [cy]
structure NJ (Q:Int) (b:Nat) (g:Gh) (Α:List Int) (W:D2):Prop where
 cv:Np Q g W
 hR:∀F ls,g.Δ F=some ls->F∈Α
 Rw:∀F∈Α,∃ls,g.Δ F=some ls
 pn:∀i:Int,0<=i/\i<Q->pn g Α i (W.nd i).1 (W.nd i).2<=b
def NJ.send{Q:Int}{b:Nat}{g:Gh}{Α:List Int}{W:D2}(h:NJ Q b g Α W)(hl:(W.IW.length:Int)=Q){d:Int}(hs:0<=d/\d<Q){Θ:Ja}(hr:Ov g d Θ)(hp:N4 g Α d (W.nd d).1 (W.nd d).2 Θ):∃g',g'.Δ=g.Δ/\NJ Q b g' Α (W.send d Θ):=by
 obtain⟨g',q1,q2⟩:=h.cv.send hl hs hr;refine⟨g',q1,q2,by rw[q1];exact h.hR,by rw[q1];exact h.Rw,λi hi=>?_⟩;have e:(W.send d Θ).nd i=if i=d then(Θ.2.1,Θ.2.2) else W.nd i:=Da (W:=W) hl hs hi;rw[e,Uk q1];by_cases q:i=d
 .rw[μ q,q];exact aQ hp.le (h.pn d hs)
 .rw[Ω q];exact h.pn i hi
theorem IX.a8{Q:Int}{c b b' ξ bU:Nat}{W:D2}(h:IX Q c b ξ bU W)(hb:∀i:Int,0<=i/\i<Q->gm (W.nd i).2+E9 (W.nd i).1<=b'):IX Q c b' ξ bU W:=by
 refine⟨h.K4,h.len,λi hi=>?_,h.T,h.ml,h.G,h.il⟩;have hN:=h.nd i hi;have hl:=h.len;have q:=hb i ay;have e:W.nd (i:Int)=W.IW[i]!:=by unfold D2.nd;rw[show((i:Nat):Int).toNat=i by omega]
 rw[e] at q;exact⟨hN.a,q,hN.ω⟩
def NJ.mono{Q:Int}{b b' : Nat}{g:Gh}{Α:List Int}{W:D2}(h:NJ Q b g Α W)(hb:b<=b'):NJ Q b' g Α W:=⟨h.cv,h.hR,h.Rw,λi hi=>aQ (h.pn i hi) hb⟩
def NJ.drop{Q:Int}{b:Nat}{g:Gh}{Α:List Int}{W W' : D2}(h:NJ Q b g Α W)(hn:W'.IW=W.IW)(hm:∀y∈W'.T,y∈W.T):NJ Q b g Α W' :=
 ⟨h.cv.drop hn hm,h.hR,h.Rw,λi hi=>by
  have e:W'.nd i=W.nd i:=by unfold D2.nd;rw[hn]
  rw[e];exact h.pn i hi⟩
def Rx(Q:Int)(b:Nat)(W:D2):Prop:=∃g Α,NJ Q b g Α W/\Ow Q g.Δ W
def Rx.i{Q:Int}{b:Nat}{W:D2}(h:Rx Q b W):Sx Q W:=by
 obtain⟨g,Α,J,U⟩:=h;exact⟨g,J.cv,U⟩
theorem O7.q{n:Int}{l:List Int}{W:E4}(h:O7 n l W):Rx n 8 W.m:=by
 have hl:=h.len;refine⟨⟨λ_=>none,λ_=>none⟩,[],⟨⟨⟨ay,ay⟩,λi hi=>?_,λy Z=>?_,ay⟩,ay,ay,λi hi=>?_⟩,λF ls q=>ay⟩
 .have r:i.toNat<W.ν.length:=B;have e:W.m.nd i=W.ν[i.toNat]!.m:=dY (f:=F5.m) r;have q:=(h.sd i.toNat r).Sy;rw[show((i.toNat:Nat):Int)=i by omega] at q;rw[e];exact q
 .have Z:y∈W.ia.map (·.m):=Z;rw[h.T] at Z;cases Z
 .have r:i.toNat<W.ν.length:=B;have e:W.m.nd i=W.ν[i.toNat]!.m:=dY (f:=F5.m) r;have hs:=h.sd i.toNat r;have hk:=hs.sp.k;rw[e];show gm W.ν[i.toNat]!.S+E9 W.ν[i.toNat]!.n.m+0+0<=8;rw[hs.n];show gm W.ν[i.toNat]!.S+0+0+0<=8;omega
def Rz(a x:Int)(m:A9):Int:=if a=m.Ψ then(if x=m.aT then m.n else 0) else 0
def BP(a x:Int)(m:A9):Int:=if a=m.to then(if x=m.aT then m.n else 0) else 0
def QL(a x:Int)(T:List A9):Int:=(T.map (Rz a x)).sum
def ua(a x:Int)(T:List A9):Int:=(T.map (BP a x)).sum
theorem rF{d:Int}{fl:List D9}{fL:Int->Bool}{s:C8}(I:0<=d):∀(T:List A9) (W:Wk) (k:Nat),MT d fl k W->(∀m∈T,ME m)->k+C2 T<=2000->Nl W.ο W.gr (fl++W.Ι)->(cL d fl fL s W T).1=0->(∀a x,a≠0->dU ((cL d fl fL s W T).2.ο a x)=dU (W.ο a x) - QL a x T+ua a x T)/\Nl (cL d fl fL s W T).2.ο (cL d fl fL s W T).2.gr (fl++(cL d fl fL s W T).2.Ι)
 | [],W,k,_,_,_,hB,_=>⟨λa x _=>by show dU (W.ο a x)=dU (W.ο a x) - 0+0;omega,hB⟩
 | m::T,W,k,h,hm,hk,hB,he=>by
  have e:cL d fl fL s W (m::T)=if(ce d fl fL s W m).1=0 then cL d fl fL s (ce d fl fL s W m).2 T else((ce d fl fL s W m).1,W):=rfl;have ek:C2 (m::T)=(m.Ζ.length+1)+C2 T:=rfl;rw[e] at he ⊢;by_cases h0:(ce d fl fL s W m).1=0
  case neg =>
   grind
  rw[μ h0] at he ⊢;have r:=hm m az;obtain⟨g1,g2⟩:=nM I h r B h0;obtain⟨_,b2,_,b4⟩:=DD h r B hB h0;obtain⟨c1,c2⟩:=rF I T _ _ g1 (λy Z=>hm y (aB _ Z)) B b4 he;refine⟨λa x ha=>?_,c2⟩;rw[c1 a x ha,b2 a x ha];have e1:QL a x (m::T)=Rz a x m+QL a x T:=by unfold QL;rw[aF,bZ]
  have e2:ua a x (m::T)=BP a x m+ua a x T:=by unfold ua;rw[aF,bZ]
  rw[e1,e2];unfold Rz BP;split<;>split<;>(try split)<;>omega
def MG.view{k:Nat}{S:Χ}(h:MG k S)(v:OA×List E8)(w:OA×List JX):MG k (S.view v w):=⟨⟨h.g.kQ,h.g.hx,h.g.Ι,h.g.ο,h.g.gr,h.g.fl⟩,h.fa,h.fn,h.il,h.rl⟩
theorem M0.all{d:Int}{c:D4}(r:0<=d/\d<12){S:Χ}(h:M0 d c S):gm S<=2000->MG (gm S) S/\Nl S.ο S.gr S.Ι/\S.hx.length<=gm S:=by
 induction h with
 | zero=>exact λ_=>⟨Dj r c,EY d c,au _⟩
 | view v w _ ih=>exact λhk=>⟨(ih hk).1.view v w,(ih hk).2⟩
 | @post S s h J ih =>
  intro hk;have hp:=iv J;have ek:gm (bP S s)=gm S+C2 s.cM:=by rw[iC,μ J]
  obtain⟨i1,i2,i3⟩:=ih B;have hA:=(zS (s:=s) i1 B).1;have hm:1<=C2 s.cM:=aQ hp.2.2.2.1.1 (sq s.cM);have eq:=pI J;have U:=J;rw[eq] at U;obtain⟨b1,b2⟩:=rF (by have:=i1.g.kQ;omega) s.cM (Jm S) _ (Ab i1.g) (uZ hp) (by show gm S+0+C2 s.cM<=2000;omega) (by show Nl S.ο S.gr (S.Ι++[]);grind) U;grind [bP,eX]
def oR{κ α:Type}[DecidableEq κ](l:List (κ×α))(k:κ)(a:α):fc (fc l k a) k a=fc l k a:=by
 have h:dV (fc l k a) k=some a:=by rw[dg,μ rfl]
 rw[nK h];refine(cK λp hp=>?_).trans (List.map_id _);by_cases q:p.1=k
 .rw[μ q];unfold fc at hp;split at hp
  .obtain⟨x,K,rfl⟩:=IY hp;by_cases J:x.1=k
   .rw[μ J];rfl
   .rw[Ω J] at q;exact iW q J
  .rename_i hn;rcases It hp with hp|hp
   .exact iW (List.any_eq_true.2 ⟨p,hp,by simp[q]⟩) hn
   .rw[D6 hp];rfl
 .rw[Ω q];rfl
theorem tF(l:List Int)(a:Int):Ji (Ji l a) a=Ji l a:=by
 unfold Ji;grind
def L4(d:Int)(N:eu):Prop:=∀k x,dV N.δ k=some x->db k=d
def KW(y:xs):Prop:=y.ct.Κ=1\/y.ct.Κ=3->db y.ct.F=y.Ψ
structure KN (N N' : eu):Prop where
 k:∀F x,dV N'.δ F=some x->∃y,dV N.δ F=some y
 Ξ:∀F x,dV N.δ F=some x->x.dec=true->∃y,dV N'.δ F=some y/\y.dec=true
def KN.refl(N:eu):KN N N:=⟨λ_ x h=>⟨x,h⟩,λ_ x h hd=>⟨x,h,hd⟩⟩
def KN.same{N N' : eu}(h:N'.δ=N.δ):KN N N':=⟨λF x K=>⟨x,by rw[<-h];exact K⟩,λF x K hd=>⟨x,by rw[h];exact K,hd⟩⟩
def KN.trans{Μ cq C:eu}(h:KN Μ cq)(k:KN cq C):KN Μ C:=⟨λF x K=>by obtain⟨y,Z⟩:=k.k F x K;exact h.k F y Z,λF x K hd=>by obtain⟨y,Z,U⟩:=h.Ξ F x K hd;exact k.Ξ F y Z U⟩
def KN.set{N:eu}{F:Int}{x y:J7}(h:dV N.δ F=some x)(hd:x.dec=true->y.dec=true):KN N { N with δ:=fc N.δ F y }:=by
 refine⟨λj z hz=>?_,λj z hz r=>?_⟩
 .dsimp only at hz;rw[dg] at hz;split at hz
  .rename_i q;rw[q];exact⟨x,h⟩
  .exact⟨z,hz⟩
 .dsimp only;rw[dg];split
  .rename_i q;rw[q] at hz;obtain rfl:=O9 (h.symm.trans hz);exact⟨y,rfl,hd r⟩
  .exact⟨z,hz,r⟩
def KN.hm{d:Int}{N N' : eu}(h:KN N N')(hN:L4 d N):L4 d N':=λk x K=>by obtain⟨y,Z⟩:=h.k k x K;exact hN k y Z
def jD{d:Int}{gs W:List Int}{ct:IF}(h:ct.Κ=1\/ct.Κ=3->db ct.F=d):∀y∈cJ d gs W ct,KW y:=λy Z=>by
 obtain⟨g,_,rfl⟩:=IY Z;exact h
def KW.Κ{y:xs}(h:y.ct.Κ≠1/\y.ct.Κ≠3):KW y:=λq=>B
def uj{d F cB Φ G:Int}{o:B0}{S:Χ}:∀y∈(dE d F cB Φ G o S).1,y.to≠d/\y.ct.Κ=5:=λy Z=>by
 unfold dE at Z;split at Z
 .cases Z
 split at Z
 .rename_i q;split at Z
  .rw[D6 Z];exact⟨q.2,rfl⟩
  .cases Z
 (repeat' (split at Z))<;>cases Z
def qk{d F cB Φ G:Int}:∀{os:List B0} {S:Χ},∀y∈(cm d F cB Φ G os S).1,y.to≠d/\y.ct.Κ=5
 | [],_,y,Z=>by cases Z
 | o::os,S,y,Z=>by
  rcases It Z with Z|Z
  .exact uj y Z
  .exact qk y Z
def iZ(Κ F eZ:Int)(yes:Bool):(E3 Κ F eZ yes).Κ=Κ:=rfl
def wj{d ms G:Int}{m:IF}{N:eu}{S:Χ}:KN N (bk d ms m G N S).2.1/\(L4 d N->∀y∈(bk d ms m G N S).1,KW y):=by
 unfold bk;split
 .unfold fQ;split
  .exact⟨.refl _,λ_ y Z=>by rw[D6 Z];exact .Κ (by simp only[iZ];decide)⟩
  .split
   .exact⟨.same rfl,λ_ y Z=>by rw[D6 Z];exact .Κ (by simp only[iZ];decide)⟩
   .exact⟨.same rfl,λ_ y Z=>by rw[D6 Z];exact .Κ (by simp only[iZ];decide)⟩
 split
 .unfold dy;split
  .exact⟨.refl _,λ_ y Z=>by cases Z⟩
  .rename_i x K;split
   .exact⟨.refl _,λ_ y Z=>by cases Z⟩
   .rename_i hd;split
    .exact⟨.set K λq=>iW q hd,λhN=>jD λ_=>hN _ x K⟩
    .split
     .exact⟨.set K λq=>iW q hd,λ_ y Z=>by cases Z⟩
     .exact⟨.set K λq=>iW q hd,λhN=>jD λ_=>hN _ x K⟩
 split
 .unfold dX;split
  .exact⟨.same rfl,λ_ y Z=>by rw[D6 Z];exact .Κ (by simp only[iZ];decide)⟩
  .split
   .refine⟨.same rfl,λ_ y Z=>?_⟩;rcases It Z with Z|Z
    .exact .Κ (by rw[(qk y Z).2];decide)
    .rw[D6 Z];exact .Κ (by simp only[iZ];decide)
   .exact⟨.refl _,λ_ y Z=>by rw[D6 Z];exact .Κ (by simp only[iZ];decide)⟩
 split
 .unfold iy eu.Kd;refine⟨?_,(λ_ y Z=>by cases Z)⟩;dsimp only;split
  .rename_i x K;exact .set K λq=>q
  .exact .refl _
 split
 .unfold dO;split
  .exact⟨.refl _,λ_ y Z=>by rw[D6 Z];exact .Κ (by simp only[iZ];decide)⟩
  .split
   .split
    .exact⟨.same rfl,λ_ y Z=>by rw[D6 Z];exact .Κ (by simp only[iZ];decide)⟩
    .exact⟨.refl _,λ_ y Z=>by cases Z⟩
   .exact⟨.refl _,λ_ y Z=>by cases Z⟩
 split
 .unfold Mb eu.Ky;refine⟨?_,(λ_ y Z=>by cases Z)⟩;dsimp only;split
  .exact .same rfl
  .exact .refl _
 .exact⟨.refl _,λ_ y Z=>by cases Z⟩
def nQ{α:Type}{d:Int}{P:α->Prop}{f:α->eu->Χ->Ja}(h:∀a N S,KN N (f a N S).2.1/\(P a->L4 d N->∀y∈(f a N S).1,KW y)):∀(l:List α) (N:eu) (S:Χ),KN N (bQ f l N S).2.1/\((∀a∈l,P a)->L4 d N->∀y∈(bQ f l N S).1,KW y)
 | [],N,S=>⟨.refl _,λ_ _ y Z=>by cases Z⟩
 | a::l,N,S=>by
  obtain⟨J,U⟩:=h a N S;obtain⟨h3,h4⟩:=nQ h l (f a N S).2.1 (f a N S).2.2;refine⟨J.trans h3,λhp hN y Z=>?_⟩;rcases It Z with Z|Z
  .exact U (hp a az) hN y Z
  .exact h4 (λb hb=>hp b (aB _ hb)) (J.hm hN) y Z
def vz{d G:Int}:∀(Ξ:Nat) (m:xs) (N:eu) (S:Χ),KN N (bF d G Ξ m N S).2.1/\(KW m->L4 d N->∀y∈(bF d G Ξ m N S).1,KW y)
 | 0,m,N,S=>⟨.refl _,λ_ _ y Z=>by cases Z⟩
 | Ξ+1,m,N,S=>by
  unfold bF;split
  .exact⟨.refl _,λhm _ y Z=>by rw[D6 Z];exact hm⟩
  .obtain⟨J,U⟩:=wj (d:=d) (ms:=m.Ψ) (G:=G) (m:=m.ct) (N:=N) (S:=S);obtain⟨h3,h4⟩:=nQ (d:=d) (P:=KW) (f:=bF d G Ξ) (vz Ξ) (bk d m.Ψ m.ct G N S).1 (bk d m.Ψ m.ct G N S).2.1 (bk d m.Ψ m.ct G N S).2.2;exact⟨J.trans h3,λ_ hN=>h4 (U hN) (J.hm hN)⟩
def mY{d G:Int}(l:List xs)(N:eu)(S:Χ):KN N (Ix d G l N S).2.1/\((∀m∈l,KW m)->L4 d N->∀y∈(Ix d G l N S).1,KW y) :=
 nQ (d:=d) (P:=KW) (f:=bF d G 7) (vz 7) l N S
def qJ{d G:Int}:∀{l:List xs} {N:eu} {S:Χ},(∀m∈l,m.to≠d)->Ix d G l N S=(l,N,S)
 | [],N,S,_=>rfl
 | m::l,N,S,h=>by
  have e:bF d G 7 m N S=([m],N,S):=by unfold bF;rw[μ (h m az)]
  have ih:=qJ (G:=G) (N:=N) (S:=S) λx K=>h x (aB _ K);unfold Ix at ih ⊢;simp only[bQ];rw[e];dsimp only;rw[ih];rfl
theorem tm{d ms G:Int}{m:IF}{N:eu}{S S2:Χ}(hk:¬m.Κ=2)(hf:ms≠d)(hm:m.Κ=1\/m.Κ=3->db m.F≠d)(U:∀k t T,IG S2 k t T=IG (bk d ms m G N S).2.2 k t T):(∀y∈(bk d ms m G N S).1,y.to≠d)/\(bk d ms m G (bk d ms m G N S).2.1 S2).2=((bk d ms m G N S).2.1,S2)/\∀y∈(bk d ms m G (bk d ms m G N S).2.1 S2).1,y.to≠d:=by
 by_cases J:m.Κ=1
 .have hc:=hm (.inl J);have e:∀N S,bk d ms m G N S=fQ d m G N S:=λN S=>by unfold bk;rw[μ J]
  simp only[e]
  have one:∀N S,∀y∈(fQ d m G N S).1,y.to≠d:=λN S y Z=>by
   unfold fQ at Z;split at Z
   .rw[D6 Z];exact hc
   .split at Z<;>(rw[D6 Z];exact hc)
  refine⟨one _ _,?_,one _ _⟩;unfold fQ;cases hl:dV N.Ζ m.F with
  | some p=>dsimp only;rw[hl]
  | none =>
   dsimp only;by_cases hg:IG S 2 G (fU (268435456+N.hl) (II d 0 m.Η))=true
   .rw[μ hg];dsimp only;rw[dg,μ rfl]
   .rw[Ω hg];dsimp only;rw[dg,μ rfl]
 by_cases h3:m.Κ=3
 .have hc:=hm (.inr h3);have e:∀N S,bk d ms m G N S=dX d m G N S:=λN S=>by unfold bk;rw[Ω J,Ω hk,μ h3]
  simp only[e]
  have one:∀N S,∀y∈(dX d m G N S).1,y.to≠d:=λN S y Z=>by
   unfold dX at Z;split at Z
   .rw[D6 Z];exact hc
   .split at Z
    .rcases It Z with Z|Z
     .exact(qk y Z).1
     .rw[D6 Z];exact hc
    .rw[D6 Z];exact hc
  refine⟨one _ _,?_,one _ _⟩;unfold dX;cases hl:dV N.Ζ m.F with
  | none =>
   dsimp only;rw[dg,μ rfl];dsimp only;rw[Ω ac]
  | some p =>
   dsimp only;by_cases hp:p.state=0
   .rw[μ hp];dsimp only;rw[dg,μ rfl];dsimp only;rw[Ω (by split<;>decide)]
   .rw[Ω hp];dsimp only;rw[hl];dsimp only;rw[Ω hp]
 by_cases h4:m.Κ=4
 .have e:∀N S,bk d ms m G N S=iy ms m N S:=λN S=>by unfold bk;rw[Ω J,Ω hk,Ω h3,μ h4]
  simp only[e];refine⟨(λy Z=>by cases Z),?_,(λy Z=>by cases Z)⟩;unfold iy eu.Kd;cases hl:dV N.δ m.F with
  | none=>dsimp only;rw[hl]
  | some x =>
   dsimp only;rw[dg,μ rfl];dsimp only;rw[tF,oR]
 by_cases h5:m.Κ=5
 .have e:∀N S,bk d ms m G N S=dO d ms m G N S:=λN S=>by unfold bk;rw[Ω J,Ω hk,Ω h3,Ω h4,μ h5]
  simp only[e] at U ⊢
  have one:∀N S,∀y∈(dO d ms m G N S).1,y.to≠d:=λN S y Z=>by
   unfold dO at Z;split at Z
   .rw[D6 Z];exact hf
   .split at Z
    .split at Z
     .rw[D6 Z];exact hf
     .cases Z
    .cases Z
  refine⟨one _ _,?_,one _ _⟩;by_cases r1:(m.F,m.eZ)∈N.C1
  .have q:dO d ms m G N S=([⟨d,ms,E3 6 m.F m.eZ false⟩],N,S):=by unfold dO;rw[μ r1]
   rw[q];dsimp only;unfold dO;rw[μ r1]
  by_cases r2:(m.Η.length=1/\m.Ι.length=m.Η[0]!.am.length)/\IG S 5 G (Kz m.Η[0]!.to m.Η[0]!.am m.Ι)=true
  .have q:dO d ms m G N S=([⟨d,ms,E3 6 m.F m.eZ false⟩],{ N with C1:=N.C1++[(m.F,m.eZ)] },Jo S 5 G (Kz m.Η[0]!.to m.Η[0]!.am m.Ι)):=by unfold dO;rw[Ω r1,μ r2.1,μ r2.2]
   rw[q];dsimp only;unfold dO;rw[μ (dx _ (List.mem_singleton.2 rfl))]
  .have q:dO d ms m G N S=([],N,S):=by
    unfold dO;rw[Ω r1];split
    .rename_i q;rw[Ω λz=>r2 ⟨q,z⟩]
    .rfl
   rw[q] at U ⊢;dsimp only at U ⊢;unfold dO;rw[Ω r1];split
   .rename_i q;rw[Ω λz=>r2 ⟨q,by rw[<-U];exact z⟩]
   .rfl
 by_cases h6:m.Κ=6
 .have e:∀N S,bk d ms m G N S=Mb m N S:=λN S=>by unfold bk;rw[Ω J,Ω hk,Ω h3,Ω h4,Ω h5,μ h6]
  simp only[e];refine⟨(λy Z=>by cases Z),?_,(λy Z=>by cases Z)⟩;unfold Mb eu.Ky;cases hl:dV N.Ζ m.F with
  | none=>dsimp only;rw[hl]
  | some p =>
   dsimp only;rw[dg,μ rfl];dsimp only;rw[cO]
   have e2:(je m.eZ ∘ je m.eZ)=je m.eZ:=by
    funext o;simp only[Function.comp_apply];unfold je;grind
   rw[e2,oR]
 .have e:∀N S,bk d ms m G N S=([],N,S):=λN S=>by unfold bk;rw[Ω J,Ω hk,Ω h3,Ω h4,Ω h5,Ω h6]
  simp[e]
def EE{d Q G:Int}{x:xs}{N:eu}{S S2:Χ}(hm:KW x)(U:∀k t T,IG S2 k t T=IG (cS d Q x G N S).2.2 k t T):(cS d Q x G (cS d Q x G N S).2.1 S2).2=((cS d Q x G N S).2.1,S2):=by
 by_cases hc:x.to=d/\(0<=x.Ψ/\x.Ψ<Q)/\x.Ψ≠d
 case neg =>
  have e:∀N S,cS d Q x G N S=([],N,S):=λN S=>by unfold cS;rw[Ω hc]
  rw[e,e]
 have e:∀N S,cS d Q x G N S=Ix d G (bk d x.Ψ x.ct G N S).1 (bk d x.Ψ x.ct G N S).2.1 (bk d x.Ψ x.ct G N S).2.2:=λN S=>by unfold cS;rw[μ hc]
 by_cases hk:x.ct.Κ=2
 case neg =>
  have J:=(tm (d:=d) (ms:=x.Ψ) (G:=G) (m:=x.ct) (N:=N) (S:=S) hk hc.2.2 (λq=>by rw[hm q];exact hc.2.2) (λ_ _ _=>rfl)).1;have e1:cS d Q x G N S=bk d x.Ψ x.ct G N S:=by rw[e,qJ J]
  rw[e1] at U ⊢;obtain⟨_,h4,h3⟩:=tm (d:=d) (ms:=x.Ψ) (G:=G) (m:=x.ct) (N:=N) (S:=S) hk hc.2.2 (λq=>by rw[hm q];exact hc.2.2) U;rw[e,qJ h3];exact h4
 have ev:∀N S,bk d x.Ψ x.ct G N S=dy d x.Ψ x.ct G N S:=λN S=>by unfold bk;rw[Ω B,μ hk]
 simp only[e,ev]
 have r:∀(T:List xs) (N1:eu),(∃y,dV N1.δ x.ct.F=some y/\y.dec=true)->(Ix d G (dy d x.Ψ x.ct G (Ix d G T N1 S).2.1 S2).1 (dy d x.Ψ x.ct G (Ix d G T N1 S).2.1 S2).2.1 (dy d x.Ψ x.ct G (Ix d G T N1 S).2.1 S2).2.2).2=((Ix d G T N1 S).2.1,S2):=λT N1 ⟨y,Z,hd⟩=>by
  obtain⟨z,hz,I⟩:=(mY (d:=d) (G:=G) T N1 S).1.Ξ _ y Z hd;generalize Ix d G T N1 S=F0 at *
  have q:dy d x.Ψ x.ct G F0.2.1 S2=([],F0.2.1,S2):=by
   unfold dy;rw[hz];dsimp only;rw[μ I]
  rw[q];rfl
 have nil:∀(N1:eu) (S1:Χ),Ix d G [] N1 S1=([],N1,S1):=λ_ _=>rfl;cases hl:dV N.δ x.ct.F with
 | none =>
  have q:∀S,dy d x.Ψ x.ct G N S=([],N,S):=λS=>by unfold dy;rw[hl]
  rw[q S];dsimp only;rw[nil];dsimp only;rw[q S2];rfl
 | some y =>
  by_cases hd:y.dec=true
  .have q:∀S,dy d x.Ψ x.ct G N S=([],N,S):=λS=>by unfold dy;rw[hl];dsimp only;rw[μ hd]
   rw[q S];dsimp only;rw[nil];dsimp only;rw[q S2];rfl
  by_cases Z:x.ct.yes=false
  .have q:dy d x.Ψ x.ct G N S=(cJ d y.B3 [] (E3 3 x.ct.F 0 false),{ N with δ:=fc N.δ x.ct.F (y.Ol false) },S):=by unfold dy;rw[hl];dsimp only;rw[Ω hd,μ Z]
   rw[q];exact r _ _ ⟨_,by rw[dg,μ rfl],rfl⟩
  by_cases hv:(Ji y.G5 x.Ψ).length<y.B3.length
  .have q:dy d x.Ψ x.ct G N S=([],{ N with δ:=fc N.δ x.ct.F { y with G5:=Ji y.G5 x.Ψ } },S):=by unfold dy;rw[hl];dsimp only;rw[Ω hd,Ω Z,μ hv]
   have q2:dy d x.Ψ x.ct G { N with δ:=fc N.δ x.ct.F { y with G5:=Ji y.G5 x.Ψ } } S2=([],{ N with δ:=fc N.δ x.ct.F { y with G5:=Ji y.G5 x.Ψ } },S2):=by
    unfold dy;dsimp only;rw[dg,μ rfl];dsimp only;rw[Ω hd,Ω Z,tF,μ hv,oR]
   rw[q];dsimp only;rw[nil];dsimp only;rw[q2];rfl
  .have q:dy d x.Ψ x.ct G N S=(cJ d y.B3 [] (E3 3 x.ct.F 0 (dB (G<=y.Ev))),{ N with δ:=fc N.δ x.ct.F (({ y with G5:=Ji y.G5 x.Ψ }:J7).Ol (dB (G<=y.Ev))) },S):=by unfold dy;rw[hl];dsimp only;rw[Ω hd,Ω Z,Ω hv]
   rw[q];exact r _ _ ⟨_,by rw[dg,μ rfl],rfl⟩
