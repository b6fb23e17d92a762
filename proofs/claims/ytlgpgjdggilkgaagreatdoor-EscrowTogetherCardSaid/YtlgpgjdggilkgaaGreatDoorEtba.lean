/- Exchanges: all legs of a part worked off; the handler of decisions. -/
import Derived.Test.YtlgpgjdggilkgaaGreatDoorEtaz
set_option linter.all false
set_option maxHeartbeats 8000000
namespace Go.Proofs.YtlgpgjdggilkgaaGreatDoor
open Go.V
noncomputable def cG(d A bI Ι E:Int):List hy->Ρ->List eU×List hy×Ρ
 | [],S=>([],[],S)
 | o::os,S=>((bV d A bI Ι E o S).1++(cG d A bI Ι E os (bV d A bI Ι E o S).2.2).1,(bV d A bI Ι E o S).2.1::(cG d A bI Ι E os (bV d A bI Ι E o S).2.2).2.1,(cG d A bI Ι E os (bV d A bI Ι E o S).2.2).2.2)
def tJ(d A bI Ι E:Int)(o:hy):∀(os:List hy) (S:Ρ),cG d A bI Ι E (os++[o]) S=((cG d A bI Ι E os S).1++(bV d A bI Ι E o (cG d A bI Ι E os S).2.2).1,(cG d A bI Ι E os S).2.1++[(bV d A bI Ι E o (cG d A bI Ι E os S).2.2).2.1],(bV d A bI Ι E o (cG d A bI Ι E os S).2.2).2.2)
 | [],S=>by simp only[ax,cG,aI]
 | p::os,S=>by
  rw[au];simp only[cG];rw[tJ d A bI Ι E o os];simp only[aH,au]
def my(d A bI Ι E:Int)(os:List hy)(S:Ρ){i:Nat}(h:i<os.length):cG d A bI Ι E (os.take (i+1)) S=((cG d A bI Ι E (os.take i) S).1++(bV d A bI Ι E os[i]! (cG d A bI Ι E (os.take i) S).2.2).1,(cG d A bI Ι E (os.take i) S).2.1++[(bV d A bI Ι E os[i]! (cG d A bI Ι E (os.take i) S).2.2).2.1],(bV d A bI Ι E os[i]! (cG d A bI Ι E (os.take i) S).2.2).2.2):=by
 rw[aB h,tJ,D7 h]
def nE(d A bI Ι E:Int):∀(os:List hy) (S:Ρ),(cG d A bI Ι E os S).2.1.length=os.length
 | [],S=>rfl
 | o::os,S=>by simp only[cG,aK,nE d A bI Ι E os]
def dW(o:hy):Nat:=if o.state=0 then o.Υ.am.length else 0
def cl(os:List hy):Nat:=(os.map dW).sum
def jZ(os:List hy):∀i,cl (os.take i)<=cl os:=λi=>by
 have h:=congrArg (λl:List hy=>(l.map dW).sum) (cK i os);simp only[aQ,dG] at h;unfold cl;omega
theorem jq(S:Ρ)(s:D6):dg (bM S s)=if(E2 S s).1=0 then dg S+C5 s.fe else dg S:=by
 unfold bM;split
 .unfold dg;show((S.D9++[s.at (cT S)]).map λs=>C5 s.fe).sum=_;rw[aQ,dG];simp only[aq,bz,aS,List.sum_nil];rfl
 .rfl
def Vq.post{d:Int}{c:B0}{S:Ρ}(h:Oc d c (dg S) S)(s:D6)(hk:dg S+C5 s.fe<=2000):Oc d c (dg (bM S s)) (bM S s):=by
 rw[jq];split
 .exact h.post s hk
 .rename_i q;rw[show bM S s=S from Ν q];exact h
def uX{d A bI Ι E:Int}{o:hy}{S:Ρ}{c:B0}(hS:Oc d c (dg S) S)(hk:dg S+dW o<=2000):Oc d c (dg (bV d A bI Ι E o S).2.2) (bV d A bI Ι E o S).2.2/\dg (bV d A bI Ι E o S).2.2+dW (bV d A bI Ι E o S).2.1<=dg S+dW o:=by
 by_cases h0:o.state=0
 .have hh:dW o=o.Υ.am.length:=Χ h0
  have key:∀(Δ to:Int) (o' : hy),o'.state≠0->E6 S Δ E (B2 Ι to o.Υ.am)=true->Oc d c (dg (L4 S Δ E (B2 Ι to o.Υ.am))) (L4 S Δ E (B2 Ι to o.Υ.am))/\dg (L4 S Δ E (B2 Ι to o.Υ.am))+dW o'<=dg S+dW o:=λΔ to o' ho hg=>by
   have hm:C5 (H7 Δ E (B2 Ι to o.Υ.am)).fe=o.Υ.am.length:=gV Ι to o.Υ.am;refine⟨Vq.post hS _ (by rw[hm];omega),?_⟩;rw[jq,hm,show dW o' = 0 from Ν ho];split<;>omega
  by_cases hB:bI=1/\o.Υ.ts≠d
  .rw[kD h0 hB];split
   .rename_i hg;exact key 6 0 _ (show(1:Int)≠0 by decide) hg
   .exact⟨hS,an _⟩
  .obtain⟨to,ht⟩:∃to,to=if bI=2 then o.Υ.fr else o.Υ.to:=⟨_,rfl⟩;rw[jb h0 hB ht];split
   .rename_i hg;exact key 2 to _ (show(2:Int)≠0 by decide) hg
   .exact⟨hS,an _⟩
 .rw[jU h0];exact⟨hS,an _⟩
def rm{d A bI Ι E:Int}{c:B0}:∀{os:List hy} {S:Ρ},Oc d c (dg S) S->dg S+cl os<=2000->Oc d c (dg (cG d A bI Ι E os S).2.2) (cG d A bI Ι E os S).2.2/\dg (cG d A bI Ι E os S).2.2+cl (cG d A bI Ι E os S).2.1<=dg S+cl os
 | [],S,h,hk=>⟨h,an _⟩
 | o::os,S,h,hk=>by
  have e:cl (o::os)=dW o+cl os:=by unfold cl;rw[aq,aS]
  have K:=uX (A:=A) (bI:=bI) (Ι:=Ι) (E:=E) (o:=o) h D;have T:=rm (A:=A) (bI:=bI) (Ι:=Ι) (E:=E) (os:=os) K.1 D;simp only[cG];have e2:∀(a:hy) (l:List hy),cl (a::l)=dW a+cl l:=λa l=>by unfold cl;rw[aq,aS]
  refine⟨T.1,?_⟩;rw[e2,e];omega
def bZ(A:Int):Int:=A / 4294967296
noncomputable def dt(d:Int)(m:G3)(E:Int)(N:υ)(S:Ρ):L8 :=
 match ζ N.Β m.A with
 | none=>([⟨d,bZ m.A,C9 4 m.A 0 false⟩],{ N with Β:=cZ N.Β m.A ⟨3,0,[]⟩ },S)
 | some p =>
  if p.state=0 then((cG d m.A (if m.yes=true then 1 else 2) p.Ι E p.Z S).1++[⟨d,bZ m.A,C9 4 m.A 0 false⟩],{ N with Β:=cZ N.Β m.A ⟨if m.yes=true then 1 else 2,p.Ι,(cG d m.A (if m.yes=true then 1 else 2) p.Ι E p.Z S).2.1⟩ },(cG d m.A (if m.yes=true then 1 else 2) p.Ι E p.Z S).2.2)
  else([⟨d,bZ m.A,C9 4 m.A 0 false⟩],N,S)
def eJ{α β:Type}[Inhabited α][Inhabited β]{f:α->β}{l:List α}{i:Nat}(h:i<l.length):(l.map f)[i]! = f l[i]!:=by
 rw[D7 (by rw[al];exact h),D7 h,eW]
def lT{d A bI Ι E:Int}{o:hy}{S:Ρ}:(bV d A bI Ι E o S).1.length<=1:=by
 by_cases h0:o.state=0
 .by_cases hB:bI=1/\o.Υ.ts≠d
  .rw[kD h0 hB];split
   .exact an _
   .exact aC _
  .obtain⟨to,ht⟩:∃to,to=if bI=2 then o.Υ.fr else o.Υ.to:=⟨_,rfl⟩;rw[jb h0 hB ht];split<;>exact aC _
 .rw[jU h0];exact aC _
theorem ph(d A bI Ι E:Int):∀(os:List hy) (S:Ρ),(cG d A bI Ι E os S).1.length<=os.length
 | [],_=>an _
 | o::os,S=>by
  have K:=ph d A bI Ι E os (bV d A bI Ι E o S).2.2;have T:=lT (d:=d) (A:=A) (bI:=bI) (Ι:=Ι) (E:=E) (o:=o) (S:=S);simp only[cG,ay,aK];omega
structure RZ (d A bI Ι E:Int) (os:List hy) (S:Ρ) (i:Nat) (ys:List E9) (Q:List OD):Prop where
 le:i<=os.length
 len:ys.length=os.length
 ow:ys.map E9.m=(cG d A bI Ι E (os.take i) S).2.1++os.drop i
 Q:Q.map (·.m)=(cG d A bI Ι E (os.take i) S).1
def RZ.at{d A bI Ι E:Int}{os:List hy}{S:Ρ}{i:Nat}{ys:List E9}{Q:List OD}(h:RZ d A bI Ι E os S i ys Q)(hi:i<os.length):ys[i]!.m=os[i]!:=by
 have U:=nE d A bI Ι E (os.take i) S;rw[aP,dF h.le] at U;have e:=eJ (f:=E9.m) (l:=ys) (i:=i) (by rw[h.len];exact hi);rw[<-e,h.ow,D7 (by rw[ay,cB];omega),dT D,List.getElem_drop,D7 hi];congr 1;omega
def RZ.XJ{d A bI Ι E:Int}{os:List hy}{S:Ρ}{i:Nat}{ys:List E9}{Q:List OD}(h:RZ d A bI Ι E os S i ys Q):Q.length<=os.length:=by
 have K:=congrArg List.length h.Q;rw[al] at K;have T:=ph d A bI Ι E (os.take i) S;rw[aP] at T;omega
def RZ.next{d A bI Ι E:Int}{os:List hy}{S:Ρ}{i:Nat}{ys:List E9}{Q:List OD}(h:RZ d A bI Ι E os S i ys Q)(hi:i<os.length){o' : E9}{B:List OD}
  (hw:(B.map (·.m),o'.m,(bV d A bI Ι E ys[i]!.m (cG d A bI Ι E (os.take i) S).2.2).2.2)=bV d A bI Ι E ys[i]!.m (cG d A bI Ι E (os.take i) S).2.2):RZ d A bI Ι E os S (i+1) (ys.set i o') (Q++B):=by
 have U:=nE d A bI Ι E (os.take i) S;rw[aP,dF h.le] at U;rw[h.at hi] at hw;have M:B.map (·.m)=_:=congrArg (·.1) hw;have a2:o'.m=_:=congrArg (·.2.1) hw;refine⟨hi,by rw[bT];exact h.len,?_,?_⟩
 .rw[my d A bI Ι E os S hi,List.map_set,h.ow,fw _ _ D,a2,U,Nat.sub_self,bY hi,fR,aH];rfl
 .rw[my d A bI Ι E os S hi,aQ,h.Q,M]
def RZ.zero{d A bI Ι E:Int}{ys:List E9}{S:Ρ}:RZ d A bI Ι E (ys.map E9.m) S 0 ys [] :=
 ⟨aC _,by rw[al],rfl,rfl⟩
def yX{nb lb:Nat}{d G:Int}{n:G0}{A:Int}(hn:(n.Β.map (·.1)).Nodup)(h:List.lookup A n.Β=none)(y:J5){L:Η}:F (cS gm cC n.mp (cZ n.Β A y)::Pe y (ey H6 n.Β::obj nb C4 (gL lb d G n.μ n.U n.mb n.mp n.mr)::cS gm cy n.mb n.Φ::ey I4 n.Φ::cS D5 bL n.mr (J6 n.sh)::L)) (eu nb lb d G { n with Β:=cZ n.Β A y } L):=by
 refine(F.c7 (MP hn h y)).trans ?_;simp only[eu];exact ak
attribute [local irreducible] Α GO GP δ ms GF GE Ev Ef C0 F CB GB V.Enters
def gy{L:Η}(A:Int):Τ Θ 196 #[J A] L (F3 (J (bZ A)) L):=by
 refine Τ.bd ?_;refine Nd ?_;intros;refine GO.ev (Ev.w5 rfl rfl) ae ?_;refine Nd ?_;intros;exact KX.en ⟨rfl,rfl⟩
abbrev Bq:=Zc [.ev 10,.ev 11]
abbrev Bp:=Za [.ev 6,.ef 7]
abbrev yD:=Zc [.ev 10,.ev 11,.ef 12,.ef 13,.ev 14]
abbrev yC:=YZ [.ev 5,.ev 6,.ev 7,.ef 4,.ef 8,.ef 9,.ef 10,.ev 11]
def UO{φ ψ:Prop}(k:ψ)(h:Hid ψ->φ:=by intro k;(repeat (first|refine ab ?_|intro B6|refine Α.dr 81 1 Bq ?_|refine Α.dr 81 4 Bp ?_|refine Α.dr 81 13 yD ?_|refine Α.dr 81 15 yC ?_));(repeat revert B6);exact Hid.out k):φ:=h ⟨k⟩
def xc{L:Η}(nb lb:Nat)(d G:Int)(n:G0)(S:Ρ)(π:B0)(hS:Oc d π (dg S) S)(E0 E:Int)(c:O6)(b4:vi c.A)(c4:∀p∈n.m.Β,Vp p.2)(hk:∀p∈n.m.Β,dg S+cl p.2.Z<=2000) :
  Τ Θ 139 #[av nb,J E0,bF (eV c),J E] (eu nb lb d G n (aU lb S::L)) (lS nb lb d G (dt d c.m E n.m S) L):=by
 have b0:O7 (O8 4 c.A 0 false).m:=jw (Δ:=4) (ω:=0) (by unfold vi;omega) b4 (by unfold vi;omega);refine Τ.bd ?_;simp only[eu,gL];refine Α.c8 (eO (b:=n.mp)) λhn=>?_;have b1:c.m.A=c.A:=rfl;cases hg:List.lookup c.A n.Β with
 | none =>
  have hr:dt d c.m E n.m S=([⟨d,bZ c.A,C9 4 c.A 0 false⟩],{ n.m with Β:=cZ n.m.Β c.A ⟨3,0,[]⟩ },S):=by
   unfold dt;rw[b1,show ζ n.m.Β c.A=none by rw[fK,hg];rfl]
  refine UO ?_;intros;refine δ.Ob (Ev.a8 rfl rfl) ae ?_;rw[hg];dsimp only[Option.map,Option.getD,Option.isSome];refine UO ?_;intros;rename_i b6 bp;refine δ.NH (Ef.d9 (Ε:=cC) (⟨bp,3,0,[],none,0⟩:J5) rfl rfl rfl rfl) ?_;rintro _ _ rfl;refine UO ?_;intros;refine δ.cr (gy c.A) ?_;refine UO ?_;intros;refine δ.cL ((F.c8 bq 3 B1).trans (F.a8 gM)) ?_;refine δ.cL (Γ:=obj nb C4 [av lb,J d,J G,J n.μ,J n.U,.map (some n.mb),.map (some n.mp),.map (some n.mr)]::M9 (O8 4 c.A 0 false)::(Ω bq 3 B1 none 0 []::Ψ gM []::cS gm cC n.mp (cZ n.Β c.A (⟨bp,3,0,[],none,0⟩:J5))::obj bp Oe [J 3,J 0,ah none 0 0]::cS gm cy n.mb n.Φ::ey I4 n.Φ::ey H6 n.Β::cS D5 bL n.mr (J6 n.sh)::aU lb S::L)) ((SK (Δ:=4) (A:=c.A) (ω:=0) (yes:=false)).trans ak) ?_;refine δ.ca (fy nb lb d G n.μ n.U n.mb n.mp n.mr (bZ c.A) (O8 4 c.A 0 false) b0) ?_;rintro _ _⟨y,rfl,Y,rfl⟩;simp only[gL];refine UO ?_;intros;(first|refine δ.ef (Ef.a8 (Ε:=bq) (e:=y) rfl rfl rfl rfl rfl bh (eA _) (by first|omega|(simp only[bu];omega)) (by first|omega|(simp only[bu];omega))) ae ?_);rintro _ _⟨a2,M,rfl,rfl⟩;refine UO ?_;intros;rw[hr];refine KX.a8 aF ?_ ⟨a2,M,[]++[y],({ n with Β:=cZ n.Β c.A ⟨bp,3,0,[],none,0⟩ }:G0),rfl,by rw[ax,aq,bz,Y];rfl,nU n c.A ⟨bp,3,0,[],none,0⟩,rfl⟩;refine(F.at (Ο:=gM y) (F.d7 (f:=gM) fq)).trans ?_;refine(F.at (Ο:=Ψ gM [y]) (F.refl _)).trans ?_;refine(F.at (Ο:=Ψ gM []) (F.refl _)).trans ?_;refine(F.c9 (f:=gM) fq).trans ?_;refine(F.c8 dz 8 N6).trans ((F.a8 I9).trans ?_);refine F.trans ?_ (F.c7 (F.c7 (yX hn hg ⟨bp,3,0,[],none,0⟩)));simp only[Pe,OE,gL];exact ak
 | some x =>
  have U:ζ n.m.Β c.A=some x.m:=by rw[fK,hg];rfl
  have b2:Vp x.m:=c4 _ (bQ U);have d0:dg S+cl x.m.Z<=2000:=hk _ (bQ U);refine Α.cL (F.at (Ο:=ey H6 n.Β) (nr hn hg)) ?_;simp only[Pe,OE];refine UO ?_;intros;refine δ.Ob (Ev.a8 rfl rfl) ae ?_;rw[hg];dsimp only[Option.map,Option.getD,Option.isSome,cC];by_cases h0:x.state=0
  .cases V3:c.yes with
   | true =>
    have hr:dt d c.m E n.m S=((cG d c.A 1 x.Ι E x.m.Z S).1++[⟨d,bZ c.A,C9 4 c.A 0 false⟩],{ n.m with Β:=cZ n.m.Β c.A ⟨1,x.Ι,(cG d c.A 1 x.Ι E x.m.Z S).2.1⟩ },(cG d c.A 1 x.Ι E x.m.Z S).2.2):=by
     unfold dt;rw[b1,U];dsimp only;rw[Χ (show x.m.state=0 from h0),show c.m.yes=true from V3];rfl
    refine UO ?_;intros;rw[V3];refine UO ?_;intros;rename_i b6;refine Α.loop (α:=Nat×List E9×OA×Nat×List OD) (λg=>RZ d c.A 1 x.Ι E x.m.Z S g.1 g.2.1 g.2.2.2.2) (λg=>[(0,av nb),(3,J E),(6,av b6),(9,.pointer (some ⟨x.b,0,none⟩)),(11,ah g.2.2.1 g.2.2.2.2.length g.2.2.2.1),(51,J (x.Z.length:Int)),(52,J (g.1:Int))]) (λg=>obj x.b Oe [J 1,J x.Ι,ah x.bG g.2.1.length x.hx]::Ω dz 8 N6 x.bG x.hx g.2.1::Ψ I9 g.2.1::Ω bq 3 B1 g.2.2.1 g.2.2.2.1 g.2.2.2.2::Ψ gM g.2.2.2.2::aU lb (cG d c.A 1 x.Ι E (x.m.Z.take g.1) S).2.2::obj nb C4 [av lb,J d,J G,J n.μ,J n.U,.map (some n.mb),.map (some n.mp),.map (some n.mr)]::obj b6 OM (eV c)::ey H6 (I1 n.Β c.A)::cS gm cy n.mb n.Φ::ey I4 n.Φ::cS gm cC n.mp n.Β::cS D5 bL n.mr (J6 n.sh)::L) (λg=>x.Z.length - g.1) (0,x.Z,none,0,[]) RZ.zero aD ?_ ?_
    .dsimp only;rw[bj];refine(F.c8 bq 3 B1).trans ((F.a8 gM).trans ?_);simp only[cG];exact ak
    rintro⟨i,ys,Oo,Oq,Q⟩ hI;dsimp only at hI ⊢;have c5:x.m.Z.length=x.Z.length:=al _;have c0:=hI.le;have c6:=hI.len;have c3:=hI.XJ;have b9:=b2.Z;by_cases c1:i<x.Z.length
    case neg =>
     have a9:x.m.Z.take i=x.m.Z:=aM D;have a6:=hI.ow;have a7:=hI.Q;rw[a9] at a6 a7;rw[a9];rw[bU D,aI] at a6;refine UO ?_;intros;refine δ.cr (gy c.A) ?_;refine UO ?_;intros;refine δ.cL (Γ:=obj nb C4 [av lb,J d,J G,J n.μ,J n.U,.map (some n.mb),.map (some n.mp),.map (some n.mr)]::M9 (O8 4 c.A 0 false)::(Ω bq 3 B1 Oo Oq Q::Ψ gM Q::obj x.b Oe [J 1,J x.Ι,ah x.bG ys.length x.hx]::Ω dz 8 N6 x.bG x.hx ys::Ψ I9 ys::ey H6 (I1 n.Β c.A)::cS gm cy n.mb n.Φ::ey I4 n.Φ::cS gm cC n.mp n.Β::cS D5 bL n.mr (J6 n.sh)::aU lb (cG d c.A 1 x.Ι E x.m.Z S).2.2::L)) ((SK (Δ:=4) (A:=c.A) (ω:=0) (yes:=false)).trans ak) ?_;refine δ.ca (fy nb lb d G n.μ n.U n.mb n.mp n.mr (bZ c.A) (O8 4 c.A 0 false) b0) ?_;rintro _ _⟨y,rfl,Y,rfl⟩;simp only[gL];refine UO ?_;intros;(first|refine δ.ef (Ef.a8 (Ε:=bq) (e:=y) rfl rfl rfl rfl rfl bh (eA _) (by first|omega|(simp only[bu];omega)) (by first|omega|(simp only[bu];omega))) ae ?_);rintro _ _⟨a2,M,rfl,rfl⟩;refine UO ?_;intros;rw[hr];refine KX.a8 aF ?_ ⟨a2,M,Q++[y],({ n with Β:=cZ n.Β c.A (⟨x.b,1,x.Ι,ys,x.bG,x.hx⟩:J5) }:G0),rfl,by rw[aQ,a7,aq,bz,Y];rfl,(nU n c.A (⟨x.b,1,x.Ι,ys,x.bG,x.hx⟩:J5)).trans (by rw[<-a6];rfl),rfl⟩;refine(F.at (Ο:=gM y) (F.d7 (f:=gM) fq)).trans ?_;refine(F.at (Ο:=Ψ gM [y]) (F.refl _)).trans ?_;refine(F.at (Ο:=Ψ gM Q) (F.refl _)).trans ?_;refine(F.c9 (f:=gM) fq).trans ?_;refine F.trans ?_ (F.c7 (F.c7 (jp hn hg (⟨x.b,1,x.Ι,ys,x.bG,x.hx⟩:J5) rfl)));simp only[Pe,OE,gL];exact ak
    have B:i<x.m.Z.length:=D;have b5:(i:Int).toNat=i:=D;have a5:=hI.at B;have b8:Rk ys[i]!.m:=by rw[a5,D7 B];exact b2.ow _ (cX B)
    have hJ:=rm (d:=d) (A:=c.A) (bI:=1) (Ι:=x.Ι) (E:=E) (os:=x.m.Z.take i) hS (by have:=jZ x.m.Z i;omega)
    have b7:ys[i]!.state=0->dg (cG d c.A 1 x.Ι E (x.m.Z.take i) S).2.2+ys[i]!.Υ.m.am.length<=2000:=λq=>by
     have e1:cl (x.m.Z.take (i+1))=cl (x.m.Z.take i)+dW x.m.Z[i]!:=by
      unfold cl;rw[aB B,aQ,dG,D7 B];simp only[aq,bz,aS,List.sum_nil,dx]
     have e2:=jZ x.m.Z (i+1);have e3:dW x.m.Z[i]! = ys[i]!.Υ.m.am.length:=by rw[<-a5];exact Χ q
     have:=hJ.2
     omega
    refine Α.c8 (pI (ad:=x.bG) (I:=ys) D) λhA=>?_;refine UO ?_;intros;rw[b5];refine δ.cL (Γ:=obj nb C4 [av lb,J d,J G,J n.μ,J n.U,.map (some n.mb),.map (some n.mp),.map (some n.mr)]::obj x.b Oe [J 1,J x.Ι,ah x.bG ys.length x.hx]::Ω dz 8 N6 x.bG x.hx ys::Ψ I9 ys::aU lb (cG d c.A 1 x.Ι E (x.m.Z.take i) S).2.2::(Ω bq 3 B1 Oo Oq Q::Ψ gM Q::obj b6 OM (eV c)::ey H6 (I1 n.Β c.A)::cS gm cy n.mb n.Φ::ey I4 n.Φ::cS gm cC n.mp n.Β::cS D5 bL n.mr (J6 n.sh)::L)) ak ?_;refine δ.ca (mZ nb lb d G n.μ n.U n.mb n.mp n.mr π _ (cG d c.A 1 x.Ι E (x.m.Z.take i) S).2.2 hJ.1 c.A b4 x.b 1 x.Ι x.bG x.hx hA ys i D b8 E b7) ?_;rintro _ _⟨a2,M,a3,o2,rfl,hw,rfl⟩;simp only[gL,OE];refine UO ?_;intros
    have c2:a3.length<=1:=by
     have K:=congrArg (λz=>z.1.length) hw;simp only[al] at K;rw[K];exact lT
    refine δ.ef (Ef.c9 (Ε:=bq) (ys:=a3) rfl rfl rfl rfl rfl (λe _=>eA e) D D) ae ?_;rintro _ _⟨b3,a4,rfl,rfl⟩;refine UO ?_;intros;refine⟨(i+1,ys.set i o2,b3,a4,Q++a3),hI.next B hw,by dsimp only;omega,?_,?_⟩
    .dsimp only;rw[bC i];exact aD
    .dsimp only;rw[my d c.A 1 x.Ι E x.m.Z S B,<-a5,bT];dsimp only;refine(F.at (Ο:=Ψ gM a3) (F.refl _)).trans ?_;refine(F.at (Ο:=Ψ gM Q) (F.refl _)).trans ?_;refine(F.c9 (f:=gM) fq).trans ?_;exact ak
   | false =>
    have hr:dt d c.m E n.m S=((cG d c.A 2 x.Ι E x.m.Z S).1++[⟨d,bZ c.A,C9 4 c.A 0 false⟩],{ n.m with Β:=cZ n.m.Β c.A ⟨2,x.Ι,(cG d c.A 2 x.Ι E x.m.Z S).2.1⟩ },(cG d c.A 2 x.Ι E x.m.Z S).2.2):=by
     unfold dt;rw[b1,U];dsimp only;rw[Χ (show x.m.state=0 from h0),show c.m.yes=false from V3];rfl
    refine UO ?_;intros;rw[V3];refine UO ?_;intros;rename_i b6;refine Α.loop (α:=Nat×List E9×OA×Nat×List OD) (λg=>RZ d c.A 2 x.Ι E x.m.Z S g.1 g.2.1 g.2.2.2.2) (λg=>[(0,av nb),(3,J E),(6,av b6),(9,.pointer (some ⟨x.b,0,none⟩)),(11,ah g.2.2.1 g.2.2.2.2.length g.2.2.2.1),(51,J (x.Z.length:Int)),(52,J (g.1:Int))]) (λg=>obj x.b Oe [J 2,J x.Ι,ah x.bG g.2.1.length x.hx]::Ω dz 8 N6 x.bG x.hx g.2.1::Ψ I9 g.2.1::Ω bq 3 B1 g.2.2.1 g.2.2.2.1 g.2.2.2.2::Ψ gM g.2.2.2.2::aU lb (cG d c.A 2 x.Ι E (x.m.Z.take g.1) S).2.2::obj nb C4 [av lb,J d,J G,J n.μ,J n.U,.map (some n.mb),.map (some n.mp),.map (some n.mr)]::obj b6 OM (eV c)::ey H6 (I1 n.Β c.A)::cS gm cy n.mb n.Φ::ey I4 n.Φ::cS gm cC n.mp n.Β::cS D5 bL n.mr (J6 n.sh)::L) (λg=>x.Z.length - g.1) (0,x.Z,none,0,[]) RZ.zero aD ?_ ?_
    .dsimp only;rw[bj];refine(F.c8 bq 3 B1).trans ((F.a8 gM).trans ?_);simp only[cG];exact ak
    rintro⟨i,ys,Oo,Oq,Q⟩ hI;dsimp only at hI ⊢;have c5:x.m.Z.length=x.Z.length:=al _;have c0:=hI.le;have c6:=hI.len;have c3:=hI.XJ;have b9:=b2.Z;by_cases c1:i<x.Z.length
    case neg =>
     have a9:x.m.Z.take i=x.m.Z:=aM D;have a6:=hI.ow;have a7:=hI.Q;rw[a9] at a6 a7;rw[a9];rw[bU D,aI] at a6;refine UO ?_;intros;refine δ.cr (gy c.A) ?_;refine UO ?_;intros;refine δ.cL (Γ:=obj nb C4 [av lb,J d,J G,J n.μ,J n.U,.map (some n.mb),.map (some n.mp),.map (some n.mr)]::M9 (O8 4 c.A 0 false)::(Ω bq 3 B1 Oo Oq Q::Ψ gM Q::obj x.b Oe [J 2,J x.Ι,ah x.bG ys.length x.hx]::Ω dz 8 N6 x.bG x.hx ys::Ψ I9 ys::ey H6 (I1 n.Β c.A)::cS gm cy n.mb n.Φ::ey I4 n.Φ::cS gm cC n.mp n.Β::cS D5 bL n.mr (J6 n.sh)::aU lb (cG d c.A 2 x.Ι E x.m.Z S).2.2::L)) ((SK (Δ:=4) (A:=c.A) (ω:=0) (yes:=false)).trans ak) ?_;refine δ.ca (fy nb lb d G n.μ n.U n.mb n.mp n.mr (bZ c.A) (O8 4 c.A 0 false) b0) ?_;rintro _ _⟨y,rfl,Y,rfl⟩;simp only[gL];refine UO ?_;intros;(first|refine δ.ef (Ef.a8 (Ε:=bq) (e:=y) rfl rfl rfl rfl rfl bh (eA _) (by first|omega|(simp only[bu];omega)) (by first|omega|(simp only[bu];omega))) ae ?_);rintro _ _⟨a2,M,rfl,rfl⟩;refine UO ?_;intros;rw[hr];refine KX.a8 aF ?_ ⟨a2,M,Q++[y],({ n with Β:=cZ n.Β c.A (⟨x.b,2,x.Ι,ys,x.bG,x.hx⟩:J5) }:G0),rfl,by rw[aQ,a7,aq,bz,Y];rfl,(nU n c.A (⟨x.b,2,x.Ι,ys,x.bG,x.hx⟩:J5)).trans (by rw[<-a6];rfl),rfl⟩;refine(F.at (Ο:=gM y) (F.d7 (f:=gM) fq)).trans ?_;refine(F.at (Ο:=Ψ gM [y]) (F.refl _)).trans ?_;refine(F.at (Ο:=Ψ gM Q) (F.refl _)).trans ?_;refine(F.c9 (f:=gM) fq).trans ?_;refine F.trans ?_ (F.c7 (F.c7 (jp hn hg (⟨x.b,2,x.Ι,ys,x.bG,x.hx⟩:J5) rfl)));simp only[Pe,OE,gL];exact ak
    have B:i<x.m.Z.length:=D;have b5:(i:Int).toNat=i:=D;have a5:=hI.at B;have b8:Rk ys[i]!.m:=by rw[a5,D7 B];exact b2.ow _ (cX B)
    have hJ:=rm (d:=d) (A:=c.A) (bI:=2) (Ι:=x.Ι) (E:=E) (os:=x.m.Z.take i) hS (by have:=jZ x.m.Z i;omega)
    have b7:ys[i]!.state=0->dg (cG d c.A 2 x.Ι E (x.m.Z.take i) S).2.2+ys[i]!.Υ.m.am.length<=2000:=λq=>by
     have e1:cl (x.m.Z.take (i+1))=cl (x.m.Z.take i)+dW x.m.Z[i]!:=by
      unfold cl;rw[aB B,aQ,dG,D7 B];simp only[aq,bz,aS,List.sum_nil,dx]
     have e2:=jZ x.m.Z (i+1);have e3:dW x.m.Z[i]! = ys[i]!.Υ.m.am.length:=by rw[<-a5];exact Χ q
     have:=hJ.2
     omega
    refine Α.c8 (pI (ad:=x.bG) (I:=ys) D) λhA=>?_;refine UO ?_;intros;rw[b5];refine δ.cL (Γ:=obj nb C4 [av lb,J d,J G,J n.μ,J n.U,.map (some n.mb),.map (some n.mp),.map (some n.mr)]::obj x.b Oe [J 2,J x.Ι,ah x.bG ys.length x.hx]::Ω dz 8 N6 x.bG x.hx ys::Ψ I9 ys::aU lb (cG d c.A 2 x.Ι E (x.m.Z.take i) S).2.2::(Ω bq 3 B1 Oo Oq Q::Ψ gM Q::obj b6 OM (eV c)::ey H6 (I1 n.Β c.A)::cS gm cy n.mb n.Φ::ey I4 n.Φ::cS gm cC n.mp n.Β::cS D5 bL n.mr (J6 n.sh)::L)) ak ?_;refine δ.ca (mZ nb lb d G n.μ n.U n.mb n.mp n.mr π _ (cG d c.A 2 x.Ι E (x.m.Z.take i) S).2.2 hJ.1 c.A b4 x.b 2 x.Ι x.bG x.hx hA ys i D b8 E b7) ?_;rintro _ _⟨a2,M,a3,o2,rfl,hw,rfl⟩;simp only[gL,OE];refine UO ?_;intros
    have c2:a3.length<=1:=by
     have K:=congrArg (λz=>z.1.length) hw;simp only[al] at K;rw[K];exact lT
    refine δ.ef (Ef.c9 (Ε:=bq) (ys:=a3) rfl rfl rfl rfl rfl (λe _=>eA e) D D) ae ?_;rintro _ _⟨b3,a4,rfl,rfl⟩;refine UO ?_;intros;refine⟨(i+1,ys.set i o2,b3,a4,Q++a3),hI.next B hw,by dsimp only;omega,?_,?_⟩
    .dsimp only;rw[bC i];exact aD
    .dsimp only;rw[my d c.A 2 x.Ι E x.m.Z S B,<-a5,bT];dsimp only;refine(F.at (Ο:=Ψ gM a3) (F.refl _)).trans ?_;refine(F.at (Ο:=Ψ gM Q) (F.refl _)).trans ?_;refine(F.c9 (f:=gM) fq).trans ?_;exact ak
  .have hr:dt d c.m E n.m S=([⟨d,bZ c.A,C9 4 c.A 0 false⟩],n.m,S):=by
    unfold dt;rw[b1,U];dsimp only;rw[Ν (show ¬x.m.state=0 from h0)]
   refine UO ?_;intros;refine δ.cr (gy c.A) ?_;refine UO ?_;intros;refine δ.cL ((F.c8 bq 3 B1).trans (F.a8 gM)) ?_;refine δ.cL (Γ:=obj nb C4 [av lb,J d,J G,J n.μ,J n.U,.map (some n.mb),.map (some n.mp),.map (some n.mr)]::M9 (O8 4 c.A 0 false)::(Ω bq 3 B1 none 0 []::Ψ gM []::obj x.b Oe [J x.state,J x.Ι,ah x.bG x.Z.length x.hx]::Ω dz 8 N6 x.bG x.hx x.Z::Ψ I9 x.Z::ey H6 (I1 n.Β c.A)::cS gm cy n.mb n.Φ::ey I4 n.Φ::cS gm cC n.mp n.Β::cS D5 bL n.mr (J6 n.sh)::aU lb S::L)) ((SK (Δ:=4) (A:=c.A) (ω:=0) (yes:=false)).trans ak) ?_;refine δ.ca (fy nb lb d G n.μ n.U n.mb n.mp n.mr (bZ c.A) (O8 4 c.A 0 false) b0) ?_;rintro _ _⟨y,rfl,Y,rfl⟩;simp only[gL];refine UO ?_;intros;(first|refine δ.ef (Ef.a8 (Ε:=bq) (e:=y) rfl rfl rfl rfl rfl bh (eA _) (by first|omega|(simp only[bu];omega)) (by first|omega|(simp only[bu];omega))) ae ?_);rintro _ _⟨a2,M,rfl,rfl⟩;refine UO ?_;intros;rw[hr];refine KX.a8 aF ?_ ⟨a2,M,[]++[y],({ n with Β:=cZ n.Β c.A x }:G0),rfl,by rw[ax,aq,bz,Y];rfl,(nU n c.A x).trans (by rw[iQ U (by show((QI J5.m n.Β).map (·.1)).Nodup;rw[jQ];exact hn)]),rfl⟩;refine(F.at (Ο:=gM y) (F.d7 (f:=gM) fq)).trans ?_;refine(F.at (Ο:=Ψ gM [y]) (F.refl _)).trans ?_;refine(F.at (Ο:=Ψ gM []) (F.refl _)).trans ?_;refine(F.c9 (f:=gM) fq).trans ?_;refine F.trans ?_ (F.c7 (F.c7 (jp hn hg x rfl)));simp only[Pe,OE,gL];exact ak
