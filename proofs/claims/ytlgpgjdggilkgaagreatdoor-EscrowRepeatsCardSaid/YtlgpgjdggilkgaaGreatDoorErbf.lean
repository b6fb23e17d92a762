/- Exchanges: all legs of a part worked off; the handler of decisions. -/
import Derived.Test.YtlgpgjdggilkgaaGreatDoorErbe
set_option linter.all false
set_option maxHeartbeats 8000000
namespace Go.Proofs.YtlgpgjdggilkgaaGreatDoor
open Go.V
noncomputable def cm(d F cB Φ G:Int):List B0->Χ->List xs×List B0×Χ
 | [],S=>([],[],S)
 | o::os,S=>((dE d F cB Φ G o S).1++(cm d F cB Φ G os (dE d F cB Φ G o S).2.2).1,(dE d F cB Φ G o S).2.1::(cm d F cB Φ G os (dE d F cB Φ G o S).2.2).2.1,(cm d F cB Φ G os (dE d F cB Φ G o S).2.2).2.2)
def qQ(d F cB Φ G:Int)(o:B0):∀(os:List B0) (S:Χ),cm d F cB Φ G (os++[o]) S=((cm d F cB Φ G os S).1++(dE d F cB Φ G o (cm d F cB Φ G os S).2.2).1,(cm d F cB Φ G os S).2.1++[(dE d F cB Φ G o (cm d F cB Φ G os S).2.2).2.1],(dE d F cB Φ G o (cm d F cB Φ G os S).2.2).2.2)
 | [],S=>by simp only[ak,cm,aJ]
 | p::os,S=>by
  rw[aj];simp only[cm];rw[qQ d F cB Φ G o os];simp only[ax,aj]
def lc(d F cB Φ G:Int)(os:List B0)(S:Χ){i:Nat}(h:i<os.length):cm d F cB Φ G (os.take (i+1)) S=((cm d F cB Φ G (os.take i) S).1++(dE d F cB Φ G os[i]! (cm d F cB Φ G (os.take i) S).2.2).1,(cm d F cB Φ G (os.take i) S).2.1++[(dE d F cB Φ G os[i]! (cm d F cB Φ G (os.take i) S).2.2).2.1],(dE d F cB Φ G os[i]! (cm d F cB Φ G (os.take i) S).2.2).2.2):=by
 rw[av h,qQ,C5 h]
def lR(d F cB Φ G:Int):∀(os:List B0) (S:Χ),(cm d F cB Φ G os S).2.1.length=os.length
 | [],S=>rfl
 | o::os,S=>by simp only[cm,aO,lR d F cB Φ G os]
def eU(o:B0):Nat:=if o.state=0 then o.bB.am.length else 0
def cy(os:List B0):Nat:=(os.map eU).sum
def jd(os:List B0):∀i,cy (os.take i)<=cy os:=λi=>by
 have h:=congrArg (λl:List B0=>(l.map eU).sum) (cz i os);simp only[aL,ej] at h;unfold cy;omega
theorem iC(S:Χ)(s:C8):gm (bP S s)=if(E2 S s).1=0 then gm S+C2 s.cM else gm S:=by
 unfold bP;split
 .unfold gm;show((S.hx++[s.at (cp S)]).map λs=>C2 s.cM).sum=_;rw[aL,ej];simp only[aF,aY,bZ,List.sum_nil];rfl
 .rfl
def P7.post{d:Int}{c:D4}{S:Χ}(h:J6 d c (gm S) S)(s:C8)(hk:gm S+C2 s.cM<=2000):J6 d c (gm (bP S s)) (bP S s):=by
 rw[iC];split
 .exact h.post s hk
 .rename_i q;rw[show bP S s=S from Ω q];exact h
def rT{d F cB Φ G:Int}{o:B0}{S:Χ}{c:D4}(hS:J6 d c (gm S) S)(hk:gm S+eU o<=2000):J6 d c (gm (dE d F cB Φ G o S).2.2) (dE d F cB Φ G o S).2.2/\gm (dE d F cB Φ G o S).2.2+eU (dE d F cB Φ G o S).2.1<=gm S+eU o:=by
 by_cases h0:o.state=0
 .have hh:eU o=o.bB.am.length:=μ h0
  have key:∀(Κ to:Int) (o' : B0),o'.state≠0->IG S Κ G (Ij Φ to o.bB.am)=true->J6 d c (gm (Jo S Κ G (Ij Φ to o.bB.am))) (Jo S Κ G (Ij Φ to o.bB.am))/\gm (Jo S Κ G (Ij Φ to o.bB.am))+eU o'<=gm S+eU o:=λΚ to o' ho hg=>by
   have hm:C2 (I9 Κ G (Ij Φ to o.bB.am)).cM=o.bB.am.length:=ik Φ to o.bB.am;refine⟨P7.post hS _ (by rw[hm];omega),?_⟩;rw[iC,hm,show eU o' = 0 from Ω ho];split<;>omega
  by_cases hB:cB=1/\o.bB.ts≠d
  .rw[jA h0 hB];split
   .rename_i hg;exact key 6 0 _ (show(1:Int)≠0 by decide) hg
   .exact⟨hS,au _⟩
  .obtain⟨to,ht⟩:∃to,to=if cB=2 then o.bB.fr else o.bB.to:=⟨_,rfl⟩;rw[io h0 hB ht];split
   .rename_i hg;exact key 2 to _ (show(2:Int)≠0 by decide) hg
   .exact⟨hS,au _⟩
 .rw[ja h0];exact⟨hS,au _⟩
def pq{d F cB Φ G:Int}{c:D4}:∀{os:List B0} {S:Χ},J6 d c (gm S) S->gm S+cy os<=2000->J6 d c (gm (cm d F cB Φ G os S).2.2) (cm d F cB Φ G os S).2.2/\gm (cm d F cB Φ G os S).2.2+cy (cm d F cB Φ G os S).2.1<=gm S+cy os
 | [],S,h,hk=>⟨h,au _⟩
 | o::os,S,h,hk=>by
  have e:cy (o::os)=eU o+cy os:=by unfold cy;rw[aF,bZ]
  have J:=rT (F:=F) (cB:=cB) (Φ:=Φ) (G:=G) (o:=o) h B;have U:=pq (F:=F) (cB:=cB) (Φ:=Φ) (G:=G) (os:=os) J.1 B;simp only[cm];have e2:∀(a:B0) (l:List B0),cy (a::l)=eU a+cy l:=λa l=>by unfold cy;rw[aF,bZ]
  refine⟨U.1,?_⟩;rw[e2,e];omega
def db(F:Int):Int:=F / 4294967296
noncomputable def dX(d:Int)(m:IF)(G:Int)(N:eu)(S:Χ):Ja :=
 match dV N.Ζ m.F with
 | none=>([⟨d,db m.F,E3 4 m.F 0 false⟩],{ N with Ζ:=fc N.Ζ m.F ⟨3,0,[]⟩ },S)
 | some p =>
  if p.state=0 then((cm d m.F (if m.yes=true then 1 else 2) p.Φ G p.Η S).1++[⟨d,db m.F,E3 4 m.F 0 false⟩],{ N with Ζ:=fc N.Ζ m.F ⟨if m.yes=true then 1 else 2,p.Φ,(cm d m.F (if m.yes=true then 1 else 2) p.Φ G p.Η S).2.1⟩ },(cm d m.F (if m.yes=true then 1 else 2) p.Φ G p.Η S).2.2)
  else([⟨d,db m.F,E3 4 m.F 0 false⟩],N,S)
def dY{α β:Type}[Inhabited α][Inhabited β]{f:α->β}{l:List α}{i:Nat}(h:i<l.length):(l.map f)[i]! = f l[i]!:=by
 rw[C5 (by rw[ah];exact h),C5 h,eM]
def kE{d F cB Φ G:Int}{o:B0}{S:Χ}:(dE d F cB Φ G o S).1.length<=1:=by
 by_cases h0:o.state=0
 .by_cases hB:cB=1/\o.bB.ts≠d
  .rw[jA h0 hB];split
   .exact au _
   .exact aC _
  .obtain⟨to,ht⟩:∃to,to=if cB=2 then o.bB.fr else o.bB.to:=⟨_,rfl⟩;rw[io h0 hB ht];split<;>exact aC _
 .rw[ja h0];exact aC _
theorem ng(d F cB Φ G:Int):∀(os:List B0) (S:Χ),(cm d F cB Φ G os S).1.length<=os.length
 | [],_=>au _
 | o::os,S=>by
  have J:=ng d F cB Φ G os (dE d F cB Φ G o S).2.2;have U:=kE (d:=d) (F:=F) (cB:=cB) (Φ:=Φ) (G:=G) (o:=o) (S:=S);simp only[cm,aq,aO];omega
structure MI (d F cB Φ G:Int) (os:List B0) (S:Χ) (i:Nat) (ys:List D5) (T:List JQ):Prop where
 le:i<=os.length
 len:ys.length=os.length
 ow:ys.map D5.m=(cm d F cB Φ G (os.take i) S).2.1++os.drop i
 T:T.map (·.m)=(cm d F cB Φ G (os.take i) S).1
def MI.at{d F cB Φ G:Int}{os:List B0}{S:Χ}{i:Nat}{ys:List D5}{T:List JQ}(h:MI d F cB Φ G os S i ys T)(hi:i<os.length):ys[i]!.m=os[i]!:=by
 have hl:=lR d F cB Φ G (os.take i) S;rw[aK,cX h.le] at hl;have e:=dY (f:=D5.m) (l:=ys) (i:=i) (by rw[h.len];exact hi);rw[<-e,h.ow,C5 (by rw[aq,ck];omega),dP B,List.getElem_drop,C5 hi];congr 1;omega
def MI.Sg{d F cB Φ G:Int}{os:List B0}{S:Χ}{i:Nat}{ys:List D5}{T:List JQ}(h:MI d F cB Φ G os S i ys T):T.length<=os.length:=by
 have J:=congrArg List.length h.T;rw[ah] at J;have U:=ng d F cB Φ G (os.take i) S;rw[aK] at U;omega
def MI.next{d F cB Φ G:Int}{os:List B0}{S:Χ}{i:Nat}{ys:List D5}{T:List JQ}(h:MI d F cB Φ G os S i ys T)(hi:i<os.length){o' : D5}{r:List JQ}
  (hw:(r.map (·.m),o'.m,(dE d F cB Φ G ys[i]!.m (cm d F cB Φ G (os.take i) S).2.2).2.2)=dE d F cB Φ G ys[i]!.m (cm d F cB Φ G (os.take i) S).2.2):MI d F cB Φ G os S (i+1) (ys.set i o') (T++r):=by
 have hl:=lR d F cB Φ G (os.take i) S;rw[aK,cX h.le] at hl;rw[h.at hi] at hw;have I:r.map (·.m)=_:=congrArg (·.1) hw;have a2:o'.m=_:=congrArg (·.2.1) hw;refine⟨hi,by rw[bq];exact h.len,?_,?_⟩
 .rw[lc d F cB Φ G os S hi,List.map_set,h.ow,eA _ _ B,a2,hl,Nat.sub_self,bS hi,fh,ax];rfl
 .rw[lc d F cB Φ G os S hi,aL,h.T,I]
def MI.zero{d F cB Φ G:Int}{ys:List D5}{S:Χ}:MI d F cB Φ G (ys.map D5.m) S 0 ys [] :=
 ⟨aC _,by rw[ah],rfl,rfl⟩
def vF{nb lb:Nat}{d Q:Int}{n:E0}{F:Int}(hn:(n.Ζ.map (·.1)).Nodup)(h:List.lookup F n.Ζ=none)(y:H7){L:LH}:A (τ cu cg n.mp (fc n.Ζ F y)::Ku y (ew F2 n.Ζ::obj nb B2 (cw lb d Q n.ω n.hl n.mb n.mp n.mr)::τ cu cc n.mb n.δ::ew F7 n.δ::τ B7 bE n.mr (G8 n.C1)::L)) (a1 nb lb d Q { n with Ζ:=fc n.Ζ F y } L):=by
 refine(A.c7 (HT hn h y)).trans ?_;simp only[a1];exact ag
attribute [local irreducible] Δ R GP Ο h2 GF GE O Ef A8 A CB GB V.Enters
def fE{L:LH}(F:Int):Λ Ε 196 #[E F] L (C9 (E (db F)) L):=by
 refine Λ.bd ?_;refine Ih ?_;intros;refine R.ev (O.A1 rfl rfl) ac ?_;refine Ih ?_;intros;exact KX.en ⟨rfl,rfl⟩
abbrev yi:=Ux [.ev 10,.ev 11]
abbrev yh:=Uv [.ev 6,.ef 7]
abbrev vq:=Ux [.ev 10,.ev 11,.ef 12,.ef 13,.ev 14]
abbrev vp:=Uu [.ev 5,.ev 6,.ev 7,.ef 4,.ef 8,.ef 9,.ef 10,.ev 11]
def Qn{φ ψ:Prop}(k:ψ)(h:Hid ψ->φ:=by intro k;(repeat (first|refine aa ?_|intro sh|refine Δ.dr 81 1 yi ?_|refine Δ.dr 81 4 yh ?_|refine Δ.dr 81 13 vq ?_|refine Δ.dr 81 15 vp ?_));(repeat revert sh);exact Hid.out k):φ:=h ⟨k⟩
def tQ{L:LH}(nb lb:Nat)(d Q:Int)(n:E0)(S:Χ)(ζ:D4)(hS:J6 d ζ (gm S) S)(ms G:Int)(c:Ko)(b4:id c.F)(c4:∀p∈n.m.Ζ,P6 p.2)(hk:∀p∈n.m.Ζ,gm S+cy p.2.Η<=2000) :
  Λ Ε 139 #[al nb,E ms,bh (dS c),E G] (a1 nb lb d Q n (aN lb S::L)) (kD nb lb d Q (dX d c.m G n.m S) L):=by
 have b0:Kp (Kq 4 c.F 0 false).m:=iH (Κ:=4) (eZ:=0) (by unfold id;omega) b4 (by unfold id;omega);refine Λ.bd ?_;simp only[a1,cw];refine Δ.c9 (dR (b:=n.mp)) λhn=>?_;have b1:c.m.F=c.F:=rfl;cases hg:List.lookup c.F n.Ζ with
 | none =>
  have hr:dX d c.m G n.m S=([⟨d,db c.F,E3 4 c.F 0 false⟩],{ n.m with Ζ:=fc n.m.Ζ c.F ⟨3,0,[]⟩ },S):=by
   unfold dX;rw[b1,show dV n.m.Ζ c.F=none by rw[eQ,hg];rfl]
  refine Qn ?_;intros;refine Ο.Js (O.a8 rfl rfl) ac ?_;rw[hg];dsimp only[Option.map,Option.getD,Option.isSome];refine Qn ?_;intros;rename_i b6 bp;refine Ο.I1 (Ef.f5 (Β:=cg) (⟨bp,3,0,[],none,0⟩:H7) rfl rfl rfl rfl) ?_;rintro _ _ rfl;refine Qn ?_;intros;refine Ο.cr (fE c.F) ?_;refine Qn ?_;intros;refine Ο.υ ((A.c8 aV 3 hy).trans (A.a8 cV)) ?_;refine Ο.υ (Y:=obj nb B2 [al lb,E d,E Q,E n.ω,E n.hl,.map (some n.mb),.map (some n.mp),.map (some n.mr)]::ID (Kq 4 c.F 0 false)::(Υ aV 3 hy none 0 []::Ρ cV []::τ cu cg n.mp (fc n.Ζ c.F (⟨bp,3,0,[],none,0⟩:H7))::obj bp JA [E 3,E 0,ae none 0 0]::τ cu cc n.mb n.δ::ew F7 n.δ::ew F2 n.Ζ::τ B7 bE n.mr (G8 n.C1)::aN lb S::L)) ((Nn (Κ:=4) (F:=c.F) (eZ:=0) (yes:=false)).trans ag) ?_;refine Ο.ca (eC nb lb d Q n.ω n.hl n.mb n.mp n.mr (db c.F) (Kq 4 c.F 0 false) b0) ?_;rintro _ _⟨y,rfl,Z,rfl⟩;simp only[cw];refine Qn ?_;intros;(first|refine Ο.ef (Ef.a8 (Β:=aV) (e:=y) rfl rfl rfl rfl rfl aS (dG _) (by first|omega|(simp only[aX];omega)) (by first|omega|(simp only[aX];omega))) ac ?_);rintro _ _⟨a2,I,rfl,rfl⟩;refine Qn ?_;intros;rw[hr];refine KX.a8 aw ?_ ⟨a2,I,[]++[y],({ n with Ζ:=fc n.Ζ c.F ⟨bp,3,0,[],none,0⟩ }:E0),rfl,by rw[ak,aF,aY,Z];rfl,ma n c.F ⟨bp,3,0,[],none,0⟩,rfl⟩;refine(A.at (Μ:=cV y) (A.d7 (f:=cV) ed)).trans ?_;refine(A.at (Μ:=Ρ cV [y]) (A.refl _)).trans ?_;refine(A.at (Μ:=Ρ cV []) (A.refl _)).trans ?_;refine(A.c9 (f:=cV) ed).trans ?_;refine(A.c8 cY 8 Jv).trans ((A.a8 G6).trans ?_);refine A.trans ?_ (A.c7 (A.c7 (vF hn hg ⟨bp,3,0,[],none,0⟩)));simp only[Ku,J2,cw];exact ag
 | some x =>
  have hl:dV n.m.Ζ c.F=some x.m:=by rw[eQ,hg];rfl
  have b2:P6 x.m:=c4 _ (bT hl);have d0:gm S+cy x.m.Η<=2000:=hk _ (bT hl);refine Δ.υ (A.at (Μ:=ew F2 n.Ζ) (lI hn hg)) ?_;simp only[Ku,J2];refine Qn ?_;intros;refine Ο.Js (O.a8 rfl rfl) ac ?_;rw[hg];dsimp only[Option.map,Option.getD,Option.isSome,cg];by_cases h0:x.state=0
  .cases Qz:c.yes with
   | true =>
    have hr:dX d c.m G n.m S=((cm d c.F 1 x.Φ G x.m.Η S).1++[⟨d,db c.F,E3 4 c.F 0 false⟩],{ n.m with Ζ:=fc n.m.Ζ c.F ⟨1,x.Φ,(cm d c.F 1 x.Φ G x.m.Η S).2.1⟩ },(cm d c.F 1 x.Φ G x.m.Η S).2.2):=by
     unfold dX;rw[b1,hl];dsimp only;rw[μ (show x.m.state=0 from h0),show c.m.yes=true from Qz];rfl
    refine Qn ?_;intros;rw[Qz];refine Qn ?_;intros;rename_i b6;refine Δ.loop (α:=Nat×List D5×OA×Nat×List JQ) (λg=>MI d c.F 1 x.Φ G x.m.Η S g.1 g.2.1 g.2.2.2.2) (λg=>[(0,al nb),(3,E G),(6,al b6),(9,.pointer (some ⟨x.b,0,none⟩)),(11,ae g.2.2.1 g.2.2.2.2.length g.2.2.2.1),(51,E (x.Η.length:Int)),(52,E (g.1:Int))]) (λg=>obj x.b JA [E 1,E x.Φ,ae x.ad g.2.1.length x.fe]::Υ cY 8 Jv x.ad x.fe g.2.1::Ρ G6 g.2.1::Υ aV 3 hy g.2.2.1 g.2.2.2.1 g.2.2.2.2::Ρ cV g.2.2.2.2::aN lb (cm d c.F 1 x.Φ G (x.m.Η.take g.1) S).2.2::obj nb B2 [al lb,E d,E Q,E n.ω,E n.hl,.map (some n.mb),.map (some n.mp),.map (some n.mr)]::obj b6 Kb (dS c)::ew F2 (GO n.Ζ c.F)::τ cu cc n.mb n.δ::ew F7 n.δ::τ cu cg n.mp n.Ζ::τ B7 bE n.mr (G8 n.C1)::L) (λg=>x.Η.length - g.1) (0,x.Η,none,0,[]) MI.zero aA ?_ ?_
    .dsimp only;rw[aU];refine(A.c8 aV 3 hy).trans ((A.a8 cV).trans ?_);simp only[cm];exact ag
    rintro⟨i,ys,JK,JL,T⟩ hI;dsimp only at hI ⊢;have c5:x.m.Η.length=x.Η.length:=ah _;have c0:=hI.le;have c6:=hI.len;have c3:=hI.Sg;have b9:=b2.Η;by_cases c1:i<x.Η.length
    case neg =>
     have a9:x.m.Η.take i=x.m.Η:=aG B;have a6:=hI.ow;have a7:=hI.T;rw[a9] at a6 a7;rw[a9];rw[bN B,aJ] at a6;refine Qn ?_;intros;refine Ο.cr (fE c.F) ?_;refine Qn ?_;intros;refine Ο.υ (Y:=obj nb B2 [al lb,E d,E Q,E n.ω,E n.hl,.map (some n.mb),.map (some n.mp),.map (some n.mr)]::ID (Kq 4 c.F 0 false)::(Υ aV 3 hy JK JL T::Ρ cV T::obj x.b JA [E 1,E x.Φ,ae x.ad ys.length x.fe]::Υ cY 8 Jv x.ad x.fe ys::Ρ G6 ys::ew F2 (GO n.Ζ c.F)::τ cu cc n.mb n.δ::ew F7 n.δ::τ cu cg n.mp n.Ζ::τ B7 bE n.mr (G8 n.C1)::aN lb (cm d c.F 1 x.Φ G x.m.Η S).2.2::L)) ((Nn (Κ:=4) (F:=c.F) (eZ:=0) (yes:=false)).trans ag) ?_;refine Ο.ca (eC nb lb d Q n.ω n.hl n.mb n.mp n.mr (db c.F) (Kq 4 c.F 0 false) b0) ?_;rintro _ _⟨y,rfl,Z,rfl⟩;simp only[cw];refine Qn ?_;intros;(first|refine Ο.ef (Ef.a8 (Β:=aV) (e:=y) rfl rfl rfl rfl rfl aS (dG _) (by first|omega|(simp only[aX];omega)) (by first|omega|(simp only[aX];omega))) ac ?_);rintro _ _⟨a2,I,rfl,rfl⟩;refine Qn ?_;intros;rw[hr];refine KX.a8 aw ?_ ⟨a2,I,T++[y],({ n with Ζ:=fc n.Ζ c.F (⟨x.b,1,x.Φ,ys,x.ad,x.fe⟩:H7) }:E0),rfl,by rw[aL,a7,aF,aY,Z];rfl,(ma n c.F (⟨x.b,1,x.Φ,ys,x.ad,x.fe⟩:H7)).trans (by rw[<-a6];rfl),rfl⟩;refine(A.at (Μ:=cV y) (A.d7 (f:=cV) ed)).trans ?_;refine(A.at (Μ:=Ρ cV [y]) (A.refl _)).trans ?_;refine(A.at (Μ:=Ρ cV T) (A.refl _)).trans ?_;refine(A.c9 (f:=cV) ed).trans ?_;refine A.trans ?_ (A.c7 (A.c7 (iB hn hg (⟨x.b,1,x.Φ,ys,x.ad,x.fe⟩:H7) rfl)));simp only[Ku,J2,cw];exact ag
    have r:i<x.m.Η.length:=B;have b5:(i:Int).toNat=i:=B;have a5:=hI.at r;have b8:Ma ys[i]!.m:=by rw[a5,C5 r];exact b2.ow _ (cG r)
    have hJ:=pq (d:=d) (F:=c.F) (cB:=1) (Φ:=x.Φ) (G:=G) (os:=x.m.Η.take i) hS (by have:=jd x.m.Η i;omega)
    have b7:ys[i]!.state=0->gm (cm d c.F 1 x.Φ G (x.m.Η.take i) S).2.2+ys[i]!.bB.m.am.length<=2000:=λq=>by
     have e1:cy (x.m.Η.take (i+1))=cy (x.m.Η.take i)+eU x.m.Η[i]!:=by
      unfold cy;rw[av r,aL,ej,C5 r];simp only[aF,aY,bZ,List.sum_nil,dW]
     have e2:=jd x.m.Η (i+1);have e3:eU x.m.Η[i]! = ys[i]!.bB.m.am.length:=by rw[<-a5];exact μ q
     have:=hJ.2
     omega
    refine Δ.c9 (nB (M:=x.ad) (D:=ys) B) λhA=>?_;refine Qn ?_;intros;rw[b5];refine Ο.υ (Y:=obj nb B2 [al lb,E d,E Q,E n.ω,E n.hl,.map (some n.mb),.map (some n.mp),.map (some n.mr)]::obj x.b JA [E 1,E x.Φ,ae x.ad ys.length x.fe]::Υ cY 8 Jv x.ad x.fe ys::Ρ G6 ys::aN lb (cm d c.F 1 x.Φ G (x.m.Η.take i) S).2.2::(Υ aV 3 hy JK JL T::Ρ cV T::obj b6 Kb (dS c)::ew F2 (GO n.Ζ c.F)::τ cu cc n.mb n.δ::ew F7 n.δ::τ cu cg n.mp n.Ζ::τ B7 bE n.mr (G8 n.C1)::L)) ag ?_;refine Ο.ca (lB nb lb d Q n.ω n.hl n.mb n.mp n.mr ζ _ (cm d c.F 1 x.Φ G (x.m.Η.take i) S).2.2 hJ.1 c.F b4 x.b 1 x.Φ x.ad x.fe hA ys i B b8 G b7) ?_;rintro _ _⟨a2,I,a3,o2,rfl,hw,rfl⟩;simp only[cw,J2];refine Qn ?_;intros
    have c2:a3.length<=1:=by
     have J:=congrArg (λz=>z.1.length) hw;simp only[ah] at J;rw[J];exact kE
    refine Ο.ef (Ef.c9 (Β:=aV) (ys:=a3) rfl rfl rfl rfl rfl (λe _=>dG e) B B) ac ?_;rintro _ _⟨b3,a4,rfl,rfl⟩;refine Qn ?_;intros;refine⟨(i+1,ys.set i o2,b3,a4,T++a3),hI.next r hw,by dsimp only;omega,?_,?_⟩
    .dsimp only;rw[bC i];exact aA
    .dsimp only;rw[lc d c.F 1 x.Φ G x.m.Η S r,<-a5,bq];dsimp only;refine(A.at (Μ:=Ρ cV a3) (A.refl _)).trans ?_;refine(A.at (Μ:=Ρ cV T) (A.refl _)).trans ?_;refine(A.c9 (f:=cV) ed).trans ?_;exact ag
   | false =>
    have hr:dX d c.m G n.m S=((cm d c.F 2 x.Φ G x.m.Η S).1++[⟨d,db c.F,E3 4 c.F 0 false⟩],{ n.m with Ζ:=fc n.m.Ζ c.F ⟨2,x.Φ,(cm d c.F 2 x.Φ G x.m.Η S).2.1⟩ },(cm d c.F 2 x.Φ G x.m.Η S).2.2):=by
     unfold dX;rw[b1,hl];dsimp only;rw[μ (show x.m.state=0 from h0),show c.m.yes=false from Qz];rfl
    refine Qn ?_;intros;rw[Qz];refine Qn ?_;intros;rename_i b6;refine Δ.loop (α:=Nat×List D5×OA×Nat×List JQ) (λg=>MI d c.F 2 x.Φ G x.m.Η S g.1 g.2.1 g.2.2.2.2) (λg=>[(0,al nb),(3,E G),(6,al b6),(9,.pointer (some ⟨x.b,0,none⟩)),(11,ae g.2.2.1 g.2.2.2.2.length g.2.2.2.1),(51,E (x.Η.length:Int)),(52,E (g.1:Int))]) (λg=>obj x.b JA [E 2,E x.Φ,ae x.ad g.2.1.length x.fe]::Υ cY 8 Jv x.ad x.fe g.2.1::Ρ G6 g.2.1::Υ aV 3 hy g.2.2.1 g.2.2.2.1 g.2.2.2.2::Ρ cV g.2.2.2.2::aN lb (cm d c.F 2 x.Φ G (x.m.Η.take g.1) S).2.2::obj nb B2 [al lb,E d,E Q,E n.ω,E n.hl,.map (some n.mb),.map (some n.mp),.map (some n.mr)]::obj b6 Kb (dS c)::ew F2 (GO n.Ζ c.F)::τ cu cc n.mb n.δ::ew F7 n.δ::τ cu cg n.mp n.Ζ::τ B7 bE n.mr (G8 n.C1)::L) (λg=>x.Η.length - g.1) (0,x.Η,none,0,[]) MI.zero aA ?_ ?_
    .dsimp only;rw[aU];refine(A.c8 aV 3 hy).trans ((A.a8 cV).trans ?_);simp only[cm];exact ag
    rintro⟨i,ys,JK,JL,T⟩ hI;dsimp only at hI ⊢;have c5:x.m.Η.length=x.Η.length:=ah _;have c0:=hI.le;have c6:=hI.len;have c3:=hI.Sg;have b9:=b2.Η;by_cases c1:i<x.Η.length
    case neg =>
     have a9:x.m.Η.take i=x.m.Η:=aG B;have a6:=hI.ow;have a7:=hI.T;rw[a9] at a6 a7;rw[a9];rw[bN B,aJ] at a6;refine Qn ?_;intros;refine Ο.cr (fE c.F) ?_;refine Qn ?_;intros;refine Ο.υ (Y:=obj nb B2 [al lb,E d,E Q,E n.ω,E n.hl,.map (some n.mb),.map (some n.mp),.map (some n.mr)]::ID (Kq 4 c.F 0 false)::(Υ aV 3 hy JK JL T::Ρ cV T::obj x.b JA [E 2,E x.Φ,ae x.ad ys.length x.fe]::Υ cY 8 Jv x.ad x.fe ys::Ρ G6 ys::ew F2 (GO n.Ζ c.F)::τ cu cc n.mb n.δ::ew F7 n.δ::τ cu cg n.mp n.Ζ::τ B7 bE n.mr (G8 n.C1)::aN lb (cm d c.F 2 x.Φ G x.m.Η S).2.2::L)) ((Nn (Κ:=4) (F:=c.F) (eZ:=0) (yes:=false)).trans ag) ?_;refine Ο.ca (eC nb lb d Q n.ω n.hl n.mb n.mp n.mr (db c.F) (Kq 4 c.F 0 false) b0) ?_;rintro _ _⟨y,rfl,Z,rfl⟩;simp only[cw];refine Qn ?_;intros;(first|refine Ο.ef (Ef.a8 (Β:=aV) (e:=y) rfl rfl rfl rfl rfl aS (dG _) (by first|omega|(simp only[aX];omega)) (by first|omega|(simp only[aX];omega))) ac ?_);rintro _ _⟨a2,I,rfl,rfl⟩;refine Qn ?_;intros;rw[hr];refine KX.a8 aw ?_ ⟨a2,I,T++[y],({ n with Ζ:=fc n.Ζ c.F (⟨x.b,2,x.Φ,ys,x.ad,x.fe⟩:H7) }:E0),rfl,by rw[aL,a7,aF,aY,Z];rfl,(ma n c.F (⟨x.b,2,x.Φ,ys,x.ad,x.fe⟩:H7)).trans (by rw[<-a6];rfl),rfl⟩;refine(A.at (Μ:=cV y) (A.d7 (f:=cV) ed)).trans ?_;refine(A.at (Μ:=Ρ cV [y]) (A.refl _)).trans ?_;refine(A.at (Μ:=Ρ cV T) (A.refl _)).trans ?_;refine(A.c9 (f:=cV) ed).trans ?_;refine A.trans ?_ (A.c7 (A.c7 (iB hn hg (⟨x.b,2,x.Φ,ys,x.ad,x.fe⟩:H7) rfl)));simp only[Ku,J2,cw];exact ag
    have r:i<x.m.Η.length:=B;have b5:(i:Int).toNat=i:=B;have a5:=hI.at r;have b8:Ma ys[i]!.m:=by rw[a5,C5 r];exact b2.ow _ (cG r)
    have hJ:=pq (d:=d) (F:=c.F) (cB:=2) (Φ:=x.Φ) (G:=G) (os:=x.m.Η.take i) hS (by have:=jd x.m.Η i;omega)
    have b7:ys[i]!.state=0->gm (cm d c.F 2 x.Φ G (x.m.Η.take i) S).2.2+ys[i]!.bB.m.am.length<=2000:=λq=>by
     have e1:cy (x.m.Η.take (i+1))=cy (x.m.Η.take i)+eU x.m.Η[i]!:=by
      unfold cy;rw[av r,aL,ej,C5 r];simp only[aF,aY,bZ,List.sum_nil,dW]
     have e2:=jd x.m.Η (i+1);have e3:eU x.m.Η[i]! = ys[i]!.bB.m.am.length:=by rw[<-a5];exact μ q
     have:=hJ.2
     omega
    refine Δ.c9 (nB (M:=x.ad) (D:=ys) B) λhA=>?_;refine Qn ?_;intros;rw[b5];refine Ο.υ (Y:=obj nb B2 [al lb,E d,E Q,E n.ω,E n.hl,.map (some n.mb),.map (some n.mp),.map (some n.mr)]::obj x.b JA [E 2,E x.Φ,ae x.ad ys.length x.fe]::Υ cY 8 Jv x.ad x.fe ys::Ρ G6 ys::aN lb (cm d c.F 2 x.Φ G (x.m.Η.take i) S).2.2::(Υ aV 3 hy JK JL T::Ρ cV T::obj b6 Kb (dS c)::ew F2 (GO n.Ζ c.F)::τ cu cc n.mb n.δ::ew F7 n.δ::τ cu cg n.mp n.Ζ::τ B7 bE n.mr (G8 n.C1)::L)) ag ?_;refine Ο.ca (lB nb lb d Q n.ω n.hl n.mb n.mp n.mr ζ _ (cm d c.F 2 x.Φ G (x.m.Η.take i) S).2.2 hJ.1 c.F b4 x.b 2 x.Φ x.ad x.fe hA ys i B b8 G b7) ?_;rintro _ _⟨a2,I,a3,o2,rfl,hw,rfl⟩;simp only[cw,J2];refine Qn ?_;intros
    have c2:a3.length<=1:=by
     have J:=congrArg (λz=>z.1.length) hw;simp only[ah] at J;rw[J];exact kE
    refine Ο.ef (Ef.c9 (Β:=aV) (ys:=a3) rfl rfl rfl rfl rfl (λe _=>dG e) B B) ac ?_;rintro _ _⟨b3,a4,rfl,rfl⟩;refine Qn ?_;intros;refine⟨(i+1,ys.set i o2,b3,a4,T++a3),hI.next r hw,by dsimp only;omega,?_,?_⟩
    .dsimp only;rw[bC i];exact aA
    .dsimp only;rw[lc d c.F 2 x.Φ G x.m.Η S r,<-a5,bq];dsimp only;refine(A.at (Μ:=Ρ cV a3) (A.refl _)).trans ?_;refine(A.at (Μ:=Ρ cV T) (A.refl _)).trans ?_;refine(A.c9 (f:=cV) ed).trans ?_;exact ag
  .have hr:dX d c.m G n.m S=([⟨d,db c.F,E3 4 c.F 0 false⟩],n.m,S):=by
    unfold dX;rw[b1,hl];dsimp only;rw[Ω (show ¬x.m.state=0 from h0)]
   refine Qn ?_;intros;refine Ο.cr (fE c.F) ?_;refine Qn ?_;intros;refine Ο.υ ((A.c8 aV 3 hy).trans (A.a8 cV)) ?_;refine Ο.υ (Y:=obj nb B2 [al lb,E d,E Q,E n.ω,E n.hl,.map (some n.mb),.map (some n.mp),.map (some n.mr)]::ID (Kq 4 c.F 0 false)::(Υ aV 3 hy none 0 []::Ρ cV []::obj x.b JA [E x.state,E x.Φ,ae x.ad x.Η.length x.fe]::Υ cY 8 Jv x.ad x.fe x.Η::Ρ G6 x.Η::ew F2 (GO n.Ζ c.F)::τ cu cc n.mb n.δ::ew F7 n.δ::τ cu cg n.mp n.Ζ::τ B7 bE n.mr (G8 n.C1)::aN lb S::L)) ((Nn (Κ:=4) (F:=c.F) (eZ:=0) (yes:=false)).trans ag) ?_;refine Ο.ca (eC nb lb d Q n.ω n.hl n.mb n.mp n.mr (db c.F) (Kq 4 c.F 0 false) b0) ?_;rintro _ _⟨y,rfl,Z,rfl⟩;simp only[cw];refine Qn ?_;intros;(first|refine Ο.ef (Ef.a8 (Β:=aV) (e:=y) rfl rfl rfl rfl rfl aS (dG _) (by first|omega|(simp only[aX];omega)) (by first|omega|(simp only[aX];omega))) ac ?_);rintro _ _⟨a2,I,rfl,rfl⟩;refine Qn ?_;intros;rw[hr];refine KX.a8 aw ?_ ⟨a2,I,[]++[y],({ n with Ζ:=fc n.Ζ c.F x }:E0),rfl,by rw[ak,aF,aY,Z];rfl,(ma n c.F x).trans (by rw[iJ hl (by show((LI H7.m n.Ζ).map (·.1)).Nodup;rw[iU];exact hn)]),rfl⟩;refine(A.at (Μ:=cV y) (A.d7 (f:=cV) ed)).trans ?_;refine(A.at (Μ:=Ρ cV [y]) (A.refl _)).trans ?_;refine(A.at (Μ:=Ρ cV []) (A.refl _)).trans ?_;refine(A.c9 (f:=cV) ed).trans ?_;refine A.trans ?_ (A.c7 (A.c7 (iB hn hg x rfl)));simp only[Ku,J2,cw];exact ag
