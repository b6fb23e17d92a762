/- Exchanges: all legs of a part worked off; the handler of decisions. -/
import Derived.Test.YtlgpgjdggilkgaaGreatDoorEdaz
set_option linter.all false
set_option maxHeartbeats 8000000
namespace Go.Proofs.YtlgpgjdggilkgaaGreatDoor
open Go.V
noncomputable def cG(d r cN Κ B:Int):List hD->Τ->List fK×List hD×Τ
 | [],S=>([],[],S)
 | o::os,S=>((bY d r cN Κ B o S).1++(cG d r cN Κ B os (bY d r cN Κ B o S).2.2).1,(bY d r cN Κ B o S).2.1::(cG d r cN Κ B os (bY d r cN Κ B o S).2.2).2.1,(cG d r cN Κ B os (bY d r cN Κ B o S).2.2).2.2)
def tL(d r cN Κ B:Int)(o:hD):∀(os:List hD) (S:Τ),cG d r cN Κ B (os++[o]) S=((cG d r cN Κ B os S).1++(bY d r cN Κ B o (cG d r cN Κ B os S).2.2).1,(cG d r cN Κ B os S).2.1++[(bY d r cN Κ B o (cG d r cN Κ B os S).2.2).2.1],(bY d r cN Κ B o (cG d r cN Κ B os S).2.2).2.2)
 | [],S=>by simp only[av,cG,aJ]
 | p::os,S=>by
  rw[aq];simp only[cG];rw[tL d r cN Κ B o os];simp only[aF,aq]
def mu(d r cN Κ B:Int)(os:List hD)(S:Τ){i:Nat}(h:i<os.length):cG d r cN Κ B (os.take (i+1)) S=((cG d r cN Κ B (os.take i) S).1++(bY d r cN Κ B os[i]! (cG d r cN Κ B (os.take i) S).2.2).1,(cG d r cN Κ B (os.take i) S).2.1++[(bY d r cN Κ B os[i]! (cG d r cN Κ B (os.take i) S).2.2).2.1],(bY d r cN Κ B os[i]! (cG d r cN Κ B (os.take i) S).2.2).2.2):=by
 rw[aB h,tL,E7 h]
def nB(d r cN Κ B:Int):∀(os:List hD) (S:Τ),(cG d r cN Κ B os S).2.1.length=os.length
 | [],S=>rfl
 | o::os,S=>by simp only[cG,aL,nB d r cN Κ B os]
def dU(o:hD):Nat:=if o.state=0 then o.Χ.am.length else 0
def cl(os:List hD):Nat:=(os.map dU).sum
def jX(os:List hD):∀i,cl (os.take i)<=cl os:=λi=>by
 have h:=congrArg (λl:List hD=>(l.map dU).sum) (cL i os);simp only[aQ,dV] at h;unfold cl;omega
theorem jp(S:Τ)(s:D7):ey (bN S s)=if(E2 S s).1=0 then ey S+C6 s.gN else ey S:=by
 unfold bN;split
 .unfold ey;show((S.Ev++[s.at (cS S)]).map λs=>C6 s.gN).sum=_;rw[aQ,dV];simp only[al,bu,aR,List.sum_nil];rfl
 .rfl
def UU.post{d:Int}{c:B4}{S:Τ}(h:NQ d c (ey S) S)(s:D7)(hk:ey S+C6 s.gN<=2000):NQ d c (ey (bN S s)) (bN S s):=by
 rw[jp];split
 .exact h.post s hk
 .rename_i q;rw[show bN S s=S from Ο q];exact h
def vb{d r cN Κ B:Int}{o:hD}{S:Τ}{c:B4}(hS:NQ d c (ey S) S)(hk:ey S+dU o<=2000):NQ d c (ey (bY d r cN Κ B o S).2.2) (bY d r cN Κ B o S).2.2/\ey (bY d r cN Κ B o S).2.2+dU (bY d r cN Κ B o S).2.1<=ey S+dU o:=by
 by_cases h0:o.state=0
 .have hh:dU o=o.Χ.am.length:=Ω h0
  have key:∀(Ζ to:Int) (o' : hD),o'.state≠0->E6 S Ζ B (B5 Κ to o.Χ.am)=true->NQ d c (ey (L3 S Ζ B (B5 Κ to o.Χ.am))) (L3 S Ζ B (B5 Κ to o.Χ.am))/\ey (L3 S Ζ B (B5 Κ to o.Χ.am))+dU o'<=ey S+dU o:=λΖ to o' ho hg=>by
   have hm:C6 (H9 Ζ B (B5 Κ to o.Χ.am)).gN=o.Χ.am.length:=gX Κ to o.Χ.am;refine⟨UU.post hS _ (by rw[hm];omega),?_⟩;rw[jp,hm,show dU o' = 0 from Ο ho];split<;>omega
  by_cases hB:cN=1/\o.Χ.ts≠d
  .rw[kB h0 hB];split
   .rename_i hg;exact key 6 0 _ (show(1:Int)≠0 by decide) hg
   .exact⟨hS,ax _⟩
  .obtain⟨to,ht⟩:∃to,to=if cN=2 then o.Χ.fr else o.Χ.to:=⟨_,rfl⟩;rw[ja h0 hB ht];split
   .rename_i hg;exact key 2 to _ (show(2:Int)≠0 by decide) hg
   .exact⟨hS,ax _⟩
 .rw[jS h0];exact⟨hS,ax _⟩
def rn{d r cN Κ B:Int}{c:B4}:∀{os:List hD} {S:Τ},NQ d c (ey S) S->ey S+cl os<=2000->NQ d c (ey (cG d r cN Κ B os S).2.2) (cG d r cN Κ B os S).2.2/\ey (cG d r cN Κ B os S).2.2+cl (cG d r cN Κ B os S).2.1<=ey S+cl os
 | [],S,h,hk=>⟨h,ax _⟩
 | o::os,S,h,hk=>by
  have e:cl (o::os)=dU o+cl os:=by unfold cl;rw[al,aR]
  have I:=vb (r:=r) (cN:=cN) (Κ:=Κ) (B:=B) (o:=o) h D;have Q:=rn (r:=r) (cN:=cN) (Κ:=Κ) (B:=B) (os:=os) I.1 D;simp only[cG];have e2:∀(a:hD) (l:List hD),cl (a::l)=dU a+cl l:=λa l=>by unfold cl;rw[al,aR]
  refine⟨Q.1,?_⟩;rw[e2,e];omega
def bX(r:Int):Int:=r / 4294967296
noncomputable def dq(d:Int)(m:G4)(B:Int)(N:ω)(S:Τ):L6 :=
 match ε N.Γ m.r with
 | none=>([⟨d,bX m.r,D4 4 m.r 0 false⟩],{ N with Γ:=ez N.Γ m.r ⟨3,0,[]⟩ },S)
 | some p =>
  if p.state=0 then((cG d m.r (if m.yes=true then 1 else 2) p.Κ B p.Α S).1++[⟨d,bX m.r,D4 4 m.r 0 false⟩],{ N with Γ:=ez N.Γ m.r ⟨if m.yes=true then 1 else 2,p.Κ,(cG d m.r (if m.yes=true then 1 else 2) p.Κ B p.Α S).2.1⟩ },(cG d m.r (if m.yes=true then 1 else 2) p.Κ B p.Α S).2.2)
  else([⟨d,bX m.r,D4 4 m.r 0 false⟩],N,S)
def eZ{α β:Type}[Inhabited α][Inhabited β]{f:α->β}{l:List α}{i:Nat}(h:i<l.length):(l.map f)[i]! = f l[i]!:=by
 rw[E7 (by rw[ak];exact h),E7 h,eW]
def lR{d r cN Κ B:Int}{o:hD}{S:Τ}:(bY d r cN Κ B o S).1.length<=1:=by
 by_cases h0:o.state=0
 .by_cases hB:cN=1/\o.Χ.ts≠d
  .rw[kB h0 hB];split
   .exact ax _
   .exact aD _
  .obtain⟨to,ht⟩:∃to,to=if cN=2 then o.Χ.fr else o.Χ.to:=⟨_,rfl⟩;rw[ja h0 hB ht];split<;>exact aD _
 .rw[jS h0];exact aD _
theorem oX(d r cN Κ B:Int):∀(os:List hD) (S:Τ),(cG d r cN Κ B os S).1.length<=os.length
 | [],_=>ax _
 | o::os,S=>by
  have I:=oX d r cN Κ B os (bY d r cN Κ B o S).2.2;have Q:=lR (d:=d) (r:=r) (cN:=cN) (Κ:=Κ) (B:=B) (o:=o) (S:=S);simp only[cG,aA,aL];omega
structure Rx (d r cN Κ B:Int) (os:List hD) (S:Τ) (i:Nat) (ys:List E9) (O:List N7):Prop where
 le:i<=os.length
 len:ys.length=os.length
 ow:ys.map E9.m=(cG d r cN Κ B (os.take i) S).2.1++os.drop i
 O:O.map (·.m)=(cG d r cN Κ B (os.take i) S).1
def Rx.at{d r cN Κ B:Int}{os:List hD}{S:Τ}{i:Nat}{ys:List E9}{O:List N7}(h:Rx d r cN Κ B os S i ys O)(hi:i<os.length):ys[i]!.m=os[i]!:=by
 have T:=nB d r cN Κ B (os.take i) S;rw[aP,dE h.le] at T;have e:=eZ (f:=E9.m) (l:=ys) (i:=i) (by rw[h.len];exact hi);rw[<-e,h.ow,E7 (by rw[aA,cB];omega),eJ D,List.getElem_drop,E7 hi];congr 1;omega
def Rx.Xs{d r cN Κ B:Int}{os:List hD}{S:Τ}{i:Nat}{ys:List E9}{O:List N7}(h:Rx d r cN Κ B os S i ys O):O.length<=os.length:=by
 have I:=congrArg List.length h.O;rw[ak] at I;have Q:=oX d r cN Κ B (os.take i) S;rw[aP] at Q;omega
def Rx.next{d r cN Κ B:Int}{os:List hD}{S:Τ}{i:Nat}{ys:List E9}{O:List N7}(h:Rx d r cN Κ B os S i ys O)(hi:i<os.length){o' : E9}{A:List N7}
  (hw:(A.map (·.m),o'.m,(bY d r cN Κ B ys[i]!.m (cG d r cN Κ B (os.take i) S).2.2).2.2)=bY d r cN Κ B ys[i]!.m (cG d r cN Κ B (os.take i) S).2.2):Rx d r cN Κ B os S (i+1) (ys.set i o') (O++A):=by
 have T:=nB d r cN Κ B (os.take i) S;rw[aP,dE h.le] at T;rw[h.at hi] at hw;have J:A.map (·.m)=_:=congrArg (·.1) hw;have a2:o'.m=_:=congrArg (·.2.1) hw;refine⟨hi,by rw[bU];exact h.len,?_,?_⟩
 .rw[mu d r cN Κ B os S hi,List.map_set,h.ow,fB _ _ D,a2,T,Nat.sub_self,bZ hi,fU,aF];rfl
 .rw[mu d r cN Κ B os S hi,aQ,h.O,J]
def Rx.zero{d r cN Κ B:Int}{ys:List E9}{S:Τ}:Rx d r cN Κ B (ys.map E9.m) S 0 ys [] :=
 ⟨aD _,by rw[ak],rfl,rfl⟩
def yZ{nb lb:Nat}{d F:Int}{n:G2}{r:Int}(hn:(n.Γ.map (·.1)).Nodup)(h:List.lookup r n.Γ=none)(y:J6){L:Ι}:E (ew gT cC n.mp (ez n.Γ r y)::OU y (h2 H6 n.Γ::obj nb C5 (hl lb d F n.ν n.T n.mb n.mp n.mr)::ew gT cz n.mb n.Ψ::h2 I2 n.Ψ::ew D6 bM n.mr (J7 n.wk)::L)) (fh nb lb d F { n with Γ:=ez n.Γ r y } L):=by
 refine(E.a8 (Mx hn h y)).trans ?_;simp only[fh];exact aj
attribute [local irreducible] Β Y GP δ vi GF GE Z Ef C0 E CB GB V.Enters
def gz{L:Ι}(r:Int):Υ Λ 196 #[K r] L (F7 (K (bX r)) L):=by
 refine Υ.bd ?_;refine ML ?_;intros;refine Y.ev (Z.A3 rfl rfl) ac ?_;refine ML ?_;intros;exact KX.en ⟨rfl,rfl⟩
abbrev Bm:=Yu [.ev 10,.ev 11]
abbrev Bl:=Ys [.ev 6,.ef 7]
abbrev yG:=Yu [.ev 10,.ev 11,.ef 12,.ef 13,.ev 14]
abbrev yF:=Yr [.ev 5,.ev 6,.ev 7,.ef 4,.ef 8,.ef 9,.ef 10,.ev 11]
def Uw{φ ψ:Prop}(k:ψ)(h:Hid ψ->φ:=by intro k;(repeat (first|refine ab ?_|intro B8|refine Β.dr 81 1 Bm ?_|refine Β.dr 81 4 Bl ?_|refine Β.dr 81 13 yG ?_|refine Β.dr 81 15 yF ?_));(repeat revert B8);exact Hid.out k):φ:=h ⟨k⟩
def xh{L:Ι}(nb lb:Nat)(d F:Int)(n:G2)(S:Τ)(υ:B4)(hS:NQ d υ (ey S) S)(E0 B:Int)(c:OK)(b4:xs c.r)(c4:∀p∈n.m.Γ,UT p.2)(hk:∀p∈n.m.Γ,ey S+cl p.2.Α<=2000) :
  Υ Λ 139 #[ay nb,K E0,bC (eO c),K B] (fh nb lb d F n (aT lb S::L)) (lQ nb lb d F (dq d c.m B n.m S) L):=by
 have b0:OL (OM 4 c.r 0 false).m:=jt (Ζ:=4) (ai:=0) (by unfold xs;omega) b4 (by unfold xs;omega);refine Υ.bd ?_;simp only[fh,hl];refine Β.c8 (eN (b:=n.mp)) λhn=>?_;have b1:c.m.r=c.r:=rfl;cases hg:List.lookup c.r n.Γ with
 | none =>
  have hr:dq d c.m B n.m S=([⟨d,bX c.r,D4 4 c.r 0 false⟩],{ n.m with Γ:=ez n.m.Γ c.r ⟨3,0,[]⟩ },S):=by
   unfold dq;rw[b1,show ε n.m.Γ c.r=none by rw[fN,hg];rfl]
  refine Uw ?_;intros;refine δ.NV (Z.a8 rfl rfl) ac ?_;rw[hg];dsimp only[Option.map,Option.getD,Option.isSome];refine Uw ?_;intros;rename_i b6 bp;refine δ.No (Ef.d9 (Η:=cC) (⟨bp,3,0,[],none,0⟩:J6) rfl rfl rfl rfl) ?_;rintro _ _ rfl;refine Uw ?_;intros;refine δ.cr (gz c.r) ?_;refine Uw ?_;intros;refine δ.cM ((E.c8 be 3 B2).trans (E.c7 gO)) ?_;refine δ.cM (Ε:=obj nb C5 [ay lb,K d,K F,K n.ν,K n.T,.map (some n.mb),.map (some n.mp),.map (some n.mr)]::MV (OM 4 c.r 0 false)::(μ be 3 B2 none 0 []::η gO []::ew gT cC n.mp (ez n.Γ c.r (⟨bp,3,0,[],none,0⟩:J6))::obj bp NS [K 3,K 0,ae none 0 0]::ew gT cz n.mb n.Ψ::h2 I2 n.Ψ::h2 H6 n.Γ::ew D6 bM n.mr (J7 n.wk)::aT lb S::L)) ((Sd (Ζ:=4) (r:=c.r) (ai:=0) (yes:=false)).trans aj) ?_;refine δ.ca (fE nb lb d F n.ν n.T n.mb n.mp n.mr (bX c.r) (OM 4 c.r 0 false) b0) ?_;rintro _ _⟨y,rfl,U,rfl⟩;simp only[hl];refine Uw ?_;intros;(first|refine δ.ef (Ef.a8 (Η:=be) (e:=y) rfl rfl rfl rfl rfl aY (ec _) (by first|omega|(simp only[bq];omega)) (by first|omega|(simp only[bq];omega))) ac ?_);rintro _ _⟨a2,J,rfl,rfl⟩;refine Uw ?_;intros;rw[hr];refine KX.a8 aC ?_ ⟨a2,J,[]++[y],({ n with Γ:=ez n.Γ c.r ⟨bp,3,0,[],none,0⟩ }:G2),rfl,by rw[av,al,bu,U];rfl,nM n c.r ⟨bp,3,0,[],none,0⟩,rfl⟩;refine(E.at (Φ:=gO y) (E.d7 (f:=gO) fj)).trans ?_;refine(E.at (Φ:=η gO [y]) (E.refl _)).trans ?_;refine(E.at (Φ:=η gO []) (E.refl _)).trans ?_;refine(E.c9 (f:=gO) fj).trans ?_;refine(E.c8 dy 8 NN).trans ((E.c7 I9).trans ?_);refine E.trans ?_ (E.a8 (E.a8 (yZ hn hg ⟨bp,3,0,[],none,0⟩)));simp only[OU,Of,hl];exact aj
 | some x =>
  have T:ε n.m.Γ c.r=some x.m:=by rw[fN,hg];rfl
  have b2:UT x.m:=c4 _ (bR T);have d0:ey S+cl x.m.Α<=2000:=hk _ (bR T);refine Β.cM (E.at (Φ:=h2 H6 n.Γ) (nk hn hg)) ?_;simp only[OU,Of];refine Uw ?_;intros;refine δ.NV (Z.a8 rfl rfl) ac ?_;rw[hg];dsimp only[Option.map,Option.getD,Option.isSome,cC];by_cases h0:x.state=0
  .cases Vz:c.yes with
   | true =>
    have hr:dq d c.m B n.m S=((cG d c.r 1 x.Κ B x.m.Α S).1++[⟨d,bX c.r,D4 4 c.r 0 false⟩],{ n.m with Γ:=ez n.m.Γ c.r ⟨1,x.Κ,(cG d c.r 1 x.Κ B x.m.Α S).2.1⟩ },(cG d c.r 1 x.Κ B x.m.Α S).2.2):=by
     unfold dq;rw[b1,T];dsimp only;rw[Ω (show x.m.state=0 from h0),show c.m.yes=true from Vz];rfl
    refine Uw ?_;intros;rw[Vz];refine Uw ?_;intros;rename_i b6;refine Β.loop (α:=Nat×List E9×OA×Nat×List N7) (λg=>Rx d c.r 1 x.Κ B x.m.Α S g.1 g.2.1 g.2.2.2.2) (λg=>[(0,ay nb),(3,K B),(6,ay b6),(9,.pointer (some ⟨x.b,0,none⟩)),(11,ae g.2.2.1 g.2.2.2.2.length g.2.2.2.1),(51,K (x.Α.length:Int)),(52,K (g.1:Int))]) (λg=>obj x.b NS [K 1,K x.Κ,ae x.bD g.2.1.length x.id]::μ dy 8 NN x.bD x.id g.2.1::η I9 g.2.1::μ be 3 B2 g.2.2.1 g.2.2.2.1 g.2.2.2.2::η gO g.2.2.2.2::aT lb (cG d c.r 1 x.Κ B (x.m.Α.take g.1) S).2.2::obj nb C5 [ay lb,K d,K F,K n.ν,K n.T,.map (some n.mb),.map (some n.mp),.map (some n.mr)]::obj b6 Oo (eO c)::h2 H6 (I1 n.Γ c.r)::ew gT cz n.mb n.Ψ::h2 I2 n.Ψ::ew gT cC n.mp n.Γ::ew D6 bM n.mr (J7 n.wk)::L) (λg=>x.Α.length - g.1) (0,x.Α,none,0,[]) Rx.zero aG ?_ ?_
    .dsimp only;rw[bA];refine(E.c8 be 3 B2).trans ((E.c7 gO).trans ?_);simp only[cG];exact aj
    rintro⟨i,ys,N2,N3,O⟩ hI;dsimp only at hI ⊢;have c5:x.m.Α.length=x.Α.length:=ak _;have c0:=hI.le;have c6:=hI.len;have c3:=hI.Xs;have b9:=b2.Α;by_cases c1:i<x.Α.length
    case neg =>
     have a9:x.m.Α.take i=x.m.Α:=aN D;have a6:=hI.ow;have a7:=hI.O;rw[a9] at a6 a7;rw[a9];rw[bV D,aJ] at a6;refine Uw ?_;intros;refine δ.cr (gz c.r) ?_;refine Uw ?_;intros;refine δ.cM (Ε:=obj nb C5 [ay lb,K d,K F,K n.ν,K n.T,.map (some n.mb),.map (some n.mp),.map (some n.mr)]::MV (OM 4 c.r 0 false)::(μ be 3 B2 N2 N3 O::η gO O::obj x.b NS [K 1,K x.Κ,ae x.bD ys.length x.id]::μ dy 8 NN x.bD x.id ys::η I9 ys::h2 H6 (I1 n.Γ c.r)::ew gT cz n.mb n.Ψ::h2 I2 n.Ψ::ew gT cC n.mp n.Γ::ew D6 bM n.mr (J7 n.wk)::aT lb (cG d c.r 1 x.Κ B x.m.Α S).2.2::L)) ((Sd (Ζ:=4) (r:=c.r) (ai:=0) (yes:=false)).trans aj) ?_;refine δ.ca (fE nb lb d F n.ν n.T n.mb n.mp n.mr (bX c.r) (OM 4 c.r 0 false) b0) ?_;rintro _ _⟨y,rfl,U,rfl⟩;simp only[hl];refine Uw ?_;intros;(first|refine δ.ef (Ef.a8 (Η:=be) (e:=y) rfl rfl rfl rfl rfl aY (ec _) (by first|omega|(simp only[bq];omega)) (by first|omega|(simp only[bq];omega))) ac ?_);rintro _ _⟨a2,J,rfl,rfl⟩;refine Uw ?_;intros;rw[hr];refine KX.a8 aC ?_ ⟨a2,J,O++[y],({ n with Γ:=ez n.Γ c.r (⟨x.b,1,x.Κ,ys,x.bD,x.id⟩:J6) }:G2),rfl,by rw[aQ,a7,al,bu,U];rfl,(nM n c.r (⟨x.b,1,x.Κ,ys,x.bD,x.id⟩:J6)).trans (by rw[<-a6];rfl),rfl⟩;refine(E.at (Φ:=gO y) (E.d7 (f:=gO) fj)).trans ?_;refine(E.at (Φ:=η gO [y]) (E.refl _)).trans ?_;refine(E.at (Φ:=η gO O) (E.refl _)).trans ?_;refine(E.c9 (f:=gO) fj).trans ?_;refine E.trans ?_ (E.a8 (E.a8 (jo hn hg (⟨x.b,1,x.Κ,ys,x.bD,x.id⟩:J6) rfl)));simp only[OU,Of,hl];exact aj
    have A:i<x.m.Α.length:=D;have b5:(i:Int).toNat=i:=D;have a5:=hI.at A;have b8:QU ys[i]!.m:=by rw[a5,E7 A];exact b2.ow _ (cY A)
    have hJ:=rn (d:=d) (r:=c.r) (cN:=1) (Κ:=x.Κ) (B:=B) (os:=x.m.Α.take i) hS (by have:=jX x.m.Α i;omega)
    have b7:ys[i]!.state=0->ey (cG d c.r 1 x.Κ B (x.m.Α.take i) S).2.2+ys[i]!.Χ.m.am.length<=2000:=λq=>by
     have e1:cl (x.m.Α.take (i+1))=cl (x.m.Α.take i)+dU x.m.Α[i]!:=by
      unfold cl;rw[aB A,aQ,dV,E7 A];simp only[al,bu,aR,List.sum_nil,dw]
     have e2:=jX x.m.Α (i+1);have e3:dU x.m.Α[i]! = ys[i]!.Χ.m.am.length:=by rw[<-a5];exact Ω q
     have:=hJ.2
     omega
    refine Β.c8 (pD (ad:=x.bD) (G:=ys) D) λhA=>?_;refine Uw ?_;intros;rw[b5];refine δ.cM (Ε:=obj nb C5 [ay lb,K d,K F,K n.ν,K n.T,.map (some n.mb),.map (some n.mp),.map (some n.mr)]::obj x.b NS [K 1,K x.Κ,ae x.bD ys.length x.id]::μ dy 8 NN x.bD x.id ys::η I9 ys::aT lb (cG d c.r 1 x.Κ B (x.m.Α.take i) S).2.2::(μ be 3 B2 N2 N3 O::η gO O::obj b6 Oo (eO c)::h2 H6 (I1 n.Γ c.r)::ew gT cz n.mb n.Ψ::h2 I2 n.Ψ::ew gT cC n.mp n.Γ::ew D6 bM n.mr (J7 n.wk)::L)) aj ?_;refine δ.ca (mV nb lb d F n.ν n.T n.mb n.mp n.mr υ _ (cG d c.r 1 x.Κ B (x.m.Α.take i) S).2.2 hJ.1 c.r b4 x.b 1 x.Κ x.bD x.id hA ys i D b8 B b7) ?_;rintro _ _⟨a2,J,a3,o2,rfl,hw,rfl⟩;simp only[hl,Of];refine Uw ?_;intros
    have c2:a3.length<=1:=by
     have I:=congrArg (λz=>z.1.length) hw;simp only[ak] at I;rw[I];exact lR
    refine δ.ef (Ef.c9 (Η:=be) (ys:=a3) rfl rfl rfl rfl rfl (λe _=>ec e) D D) ac ?_;rintro _ _⟨b3,a4,rfl,rfl⟩;refine Uw ?_;intros;refine⟨(i+1,ys.set i o2,b3,a4,O++a3),hI.next A hw,by dsimp only;omega,?_,?_⟩
    .dsimp only;rw[bJ i];exact aG
    .dsimp only;rw[mu d c.r 1 x.Κ B x.m.Α S A,<-a5,bU];dsimp only;refine(E.at (Φ:=η gO a3) (E.refl _)).trans ?_;refine(E.at (Φ:=η gO O) (E.refl _)).trans ?_;refine(E.c9 (f:=gO) fj).trans ?_;exact aj
   | false =>
    have hr:dq d c.m B n.m S=((cG d c.r 2 x.Κ B x.m.Α S).1++[⟨d,bX c.r,D4 4 c.r 0 false⟩],{ n.m with Γ:=ez n.m.Γ c.r ⟨2,x.Κ,(cG d c.r 2 x.Κ B x.m.Α S).2.1⟩ },(cG d c.r 2 x.Κ B x.m.Α S).2.2):=by
     unfold dq;rw[b1,T];dsimp only;rw[Ω (show x.m.state=0 from h0),show c.m.yes=false from Vz];rfl
    refine Uw ?_;intros;rw[Vz];refine Uw ?_;intros;rename_i b6;refine Β.loop (α:=Nat×List E9×OA×Nat×List N7) (λg=>Rx d c.r 2 x.Κ B x.m.Α S g.1 g.2.1 g.2.2.2.2) (λg=>[(0,ay nb),(3,K B),(6,ay b6),(9,.pointer (some ⟨x.b,0,none⟩)),(11,ae g.2.2.1 g.2.2.2.2.length g.2.2.2.1),(51,K (x.Α.length:Int)),(52,K (g.1:Int))]) (λg=>obj x.b NS [K 2,K x.Κ,ae x.bD g.2.1.length x.id]::μ dy 8 NN x.bD x.id g.2.1::η I9 g.2.1::μ be 3 B2 g.2.2.1 g.2.2.2.1 g.2.2.2.2::η gO g.2.2.2.2::aT lb (cG d c.r 2 x.Κ B (x.m.Α.take g.1) S).2.2::obj nb C5 [ay lb,K d,K F,K n.ν,K n.T,.map (some n.mb),.map (some n.mp),.map (some n.mr)]::obj b6 Oo (eO c)::h2 H6 (I1 n.Γ c.r)::ew gT cz n.mb n.Ψ::h2 I2 n.Ψ::ew gT cC n.mp n.Γ::ew D6 bM n.mr (J7 n.wk)::L) (λg=>x.Α.length - g.1) (0,x.Α,none,0,[]) Rx.zero aG ?_ ?_
    .dsimp only;rw[bA];refine(E.c8 be 3 B2).trans ((E.c7 gO).trans ?_);simp only[cG];exact aj
    rintro⟨i,ys,N2,N3,O⟩ hI;dsimp only at hI ⊢;have c5:x.m.Α.length=x.Α.length:=ak _;have c0:=hI.le;have c6:=hI.len;have c3:=hI.Xs;have b9:=b2.Α;by_cases c1:i<x.Α.length
    case neg =>
     have a9:x.m.Α.take i=x.m.Α:=aN D;have a6:=hI.ow;have a7:=hI.O;rw[a9] at a6 a7;rw[a9];rw[bV D,aJ] at a6;refine Uw ?_;intros;refine δ.cr (gz c.r) ?_;refine Uw ?_;intros;refine δ.cM (Ε:=obj nb C5 [ay lb,K d,K F,K n.ν,K n.T,.map (some n.mb),.map (some n.mp),.map (some n.mr)]::MV (OM 4 c.r 0 false)::(μ be 3 B2 N2 N3 O::η gO O::obj x.b NS [K 2,K x.Κ,ae x.bD ys.length x.id]::μ dy 8 NN x.bD x.id ys::η I9 ys::h2 H6 (I1 n.Γ c.r)::ew gT cz n.mb n.Ψ::h2 I2 n.Ψ::ew gT cC n.mp n.Γ::ew D6 bM n.mr (J7 n.wk)::aT lb (cG d c.r 2 x.Κ B x.m.Α S).2.2::L)) ((Sd (Ζ:=4) (r:=c.r) (ai:=0) (yes:=false)).trans aj) ?_;refine δ.ca (fE nb lb d F n.ν n.T n.mb n.mp n.mr (bX c.r) (OM 4 c.r 0 false) b0) ?_;rintro _ _⟨y,rfl,U,rfl⟩;simp only[hl];refine Uw ?_;intros;(first|refine δ.ef (Ef.a8 (Η:=be) (e:=y) rfl rfl rfl rfl rfl aY (ec _) (by first|omega|(simp only[bq];omega)) (by first|omega|(simp only[bq];omega))) ac ?_);rintro _ _⟨a2,J,rfl,rfl⟩;refine Uw ?_;intros;rw[hr];refine KX.a8 aC ?_ ⟨a2,J,O++[y],({ n with Γ:=ez n.Γ c.r (⟨x.b,2,x.Κ,ys,x.bD,x.id⟩:J6) }:G2),rfl,by rw[aQ,a7,al,bu,U];rfl,(nM n c.r (⟨x.b,2,x.Κ,ys,x.bD,x.id⟩:J6)).trans (by rw[<-a6];rfl),rfl⟩;refine(E.at (Φ:=gO y) (E.d7 (f:=gO) fj)).trans ?_;refine(E.at (Φ:=η gO [y]) (E.refl _)).trans ?_;refine(E.at (Φ:=η gO O) (E.refl _)).trans ?_;refine(E.c9 (f:=gO) fj).trans ?_;refine E.trans ?_ (E.a8 (E.a8 (jo hn hg (⟨x.b,2,x.Κ,ys,x.bD,x.id⟩:J6) rfl)));simp only[OU,Of,hl];exact aj
    have A:i<x.m.Α.length:=D;have b5:(i:Int).toNat=i:=D;have a5:=hI.at A;have b8:QU ys[i]!.m:=by rw[a5,E7 A];exact b2.ow _ (cY A)
    have hJ:=rn (d:=d) (r:=c.r) (cN:=2) (Κ:=x.Κ) (B:=B) (os:=x.m.Α.take i) hS (by have:=jX x.m.Α i;omega)
    have b7:ys[i]!.state=0->ey (cG d c.r 2 x.Κ B (x.m.Α.take i) S).2.2+ys[i]!.Χ.m.am.length<=2000:=λq=>by
     have e1:cl (x.m.Α.take (i+1))=cl (x.m.Α.take i)+dU x.m.Α[i]!:=by
      unfold cl;rw[aB A,aQ,dV,E7 A];simp only[al,bu,aR,List.sum_nil,dw]
     have e2:=jX x.m.Α (i+1);have e3:dU x.m.Α[i]! = ys[i]!.Χ.m.am.length:=by rw[<-a5];exact Ω q
     have:=hJ.2
     omega
    refine Β.c8 (pD (ad:=x.bD) (G:=ys) D) λhA=>?_;refine Uw ?_;intros;rw[b5];refine δ.cM (Ε:=obj nb C5 [ay lb,K d,K F,K n.ν,K n.T,.map (some n.mb),.map (some n.mp),.map (some n.mr)]::obj x.b NS [K 2,K x.Κ,ae x.bD ys.length x.id]::μ dy 8 NN x.bD x.id ys::η I9 ys::aT lb (cG d c.r 2 x.Κ B (x.m.Α.take i) S).2.2::(μ be 3 B2 N2 N3 O::η gO O::obj b6 Oo (eO c)::h2 H6 (I1 n.Γ c.r)::ew gT cz n.mb n.Ψ::h2 I2 n.Ψ::ew gT cC n.mp n.Γ::ew D6 bM n.mr (J7 n.wk)::L)) aj ?_;refine δ.ca (mV nb lb d F n.ν n.T n.mb n.mp n.mr υ _ (cG d c.r 2 x.Κ B (x.m.Α.take i) S).2.2 hJ.1 c.r b4 x.b 2 x.Κ x.bD x.id hA ys i D b8 B b7) ?_;rintro _ _⟨a2,J,a3,o2,rfl,hw,rfl⟩;simp only[hl,Of];refine Uw ?_;intros
    have c2:a3.length<=1:=by
     have I:=congrArg (λz=>z.1.length) hw;simp only[ak] at I;rw[I];exact lR
    refine δ.ef (Ef.c9 (Η:=be) (ys:=a3) rfl rfl rfl rfl rfl (λe _=>ec e) D D) ac ?_;rintro _ _⟨b3,a4,rfl,rfl⟩;refine Uw ?_;intros;refine⟨(i+1,ys.set i o2,b3,a4,O++a3),hI.next A hw,by dsimp only;omega,?_,?_⟩
    .dsimp only;rw[bJ i];exact aG
    .dsimp only;rw[mu d c.r 2 x.Κ B x.m.Α S A,<-a5,bU];dsimp only;refine(E.at (Φ:=η gO a3) (E.refl _)).trans ?_;refine(E.at (Φ:=η gO O) (E.refl _)).trans ?_;refine(E.c9 (f:=gO) fj).trans ?_;exact aj
  .have hr:dq d c.m B n.m S=([⟨d,bX c.r,D4 4 c.r 0 false⟩],n.m,S):=by
    unfold dq;rw[b1,T];dsimp only;rw[Ο (show ¬x.m.state=0 from h0)]
   refine Uw ?_;intros;refine δ.cr (gz c.r) ?_;refine Uw ?_;intros;refine δ.cM ((E.c8 be 3 B2).trans (E.c7 gO)) ?_;refine δ.cM (Ε:=obj nb C5 [ay lb,K d,K F,K n.ν,K n.T,.map (some n.mb),.map (some n.mp),.map (some n.mr)]::MV (OM 4 c.r 0 false)::(μ be 3 B2 none 0 []::η gO []::obj x.b NS [K x.state,K x.Κ,ae x.bD x.Α.length x.id]::μ dy 8 NN x.bD x.id x.Α::η I9 x.Α::h2 H6 (I1 n.Γ c.r)::ew gT cz n.mb n.Ψ::h2 I2 n.Ψ::ew gT cC n.mp n.Γ::ew D6 bM n.mr (J7 n.wk)::aT lb S::L)) ((Sd (Ζ:=4) (r:=c.r) (ai:=0) (yes:=false)).trans aj) ?_;refine δ.ca (fE nb lb d F n.ν n.T n.mb n.mp n.mr (bX c.r) (OM 4 c.r 0 false) b0) ?_;rintro _ _⟨y,rfl,U,rfl⟩;simp only[hl];refine Uw ?_;intros;(first|refine δ.ef (Ef.a8 (Η:=be) (e:=y) rfl rfl rfl rfl rfl aY (ec _) (by first|omega|(simp only[bq];omega)) (by first|omega|(simp only[bq];omega))) ac ?_);rintro _ _⟨a2,J,rfl,rfl⟩;refine Uw ?_;intros;rw[hr];refine KX.a8 aC ?_ ⟨a2,J,[]++[y],({ n with Γ:=ez n.Γ c.r x }:G2),rfl,by rw[av,al,bu,U];rfl,(nM n c.r x).trans (by rw[iQ T (by show((Qn J6.m n.Γ).map (·.1)).Nodup;rw[jO];exact hn)]),rfl⟩;refine(E.at (Φ:=gO y) (E.d7 (f:=gO) fj)).trans ?_;refine(E.at (Φ:=η gO [y]) (E.refl _)).trans ?_;refine(E.at (Φ:=η gO []) (E.refl _)).trans ?_;refine(E.c9 (f:=gO) fj).trans ?_;refine E.trans ?_ (E.a8 (E.a8 (jo hn hg x rfl)));simp only[OU,Of,hl];exact aj
