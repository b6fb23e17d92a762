/- Lemmas. -/
import Derived.Test.YtlgpgjdggilkgaaGreatDoorErbh
set_option linter.all false
set_option maxHeartbeats 8000000
namespace Go.Proofs.YtlgpgjdggilkgaaGreatDoor
section
open Go.V
structure MJ (d kd:Int) (y:xs):Prop where
 ct:Kp y.ct
 Κ:kd<y.ct.Κ
 le:y.ct.Κ<=6
 Ψ:y.Ψ=d
 h1:y.to=d->y.ct.Η=[]
theorem iV{κ α:Type}[DecidableEq κ]{l:List (κ×α)}{k:κ}{a:α}{p:κ×α}(h:p∈fc l k a):p=(k,a)\/p∈l:=by
 grind [fc]
theorem uY{l l' : List (Int×Lb)}(h:l.Perm l'):(l.map λp=>cy p.2.Η).sum=(l'.map λp=>cy p.2.Η).sum:=ay
theorem pA{N:eu}{F:Int}{p q:Lb}(hn:(N.Ζ.map (·.1)).Nodup)(h:dV N.Ζ F=some p):E9 { N with Ζ:=fc N.Ζ F q }+cy p.Η=E9 N+cy q.Η:=by
 have J:=uY (tu (k:=F) (a:=q) hn);have U:=uY (mj hn h);grind [E9]
theorem pB{N:eu}{F:Int}{q:Lb}(hn:(N.Ζ.map (·.1)).Nodup)(h:dV N.Ζ F=none):E9 { N with Ζ:=fc N.Ζ F q }=E9 N+cy q.Η:=by
 grind [E9,qD]
def wt{S:Χ}{Κ G:Int}{T:List A9}(h:IG S Κ G T=true):(E2 S (I9 Κ G T)).1=0/\1<=T.length/\T.length<=64:=by
 have he:(E2 S (I9 Κ G T)).1=0:=by
  refine Classical.byContradiction λq=>?_;unfold IG at h;rw[bj q] at h;cases h
 exact⟨he,(iv he).2.2.2.1⟩
def DF{S:Χ}{Κ G:Int}{T:List A9}(h:IG S Κ G T=true):gm (Jo S Κ G T)=gm S+C2 T:=by
 rw[iC,μ (wt h).1];rfl
def zA:∀T:List A9,T.length<=C2 T
 | []=>au _
 | m::T=>by
  have:=zA T
  show T.length+1<=(m.Ζ.length+1)+C2 T;omega
theorem Do{S:Χ}{s:C8}:gm S<=gm (bP S s):=by
 rw[iC];split<;>omega
theorem ze{d F cB Φ G:Int}{o:B0}{S:Χ}:gm S<=gm (dE d F cB Φ G o S).2.2:=by
 by_cases h0:o.state=0
 .by_cases hB:cB=1/\o.bB.ts≠d
  .grind [jA,Do]
  .obtain⟨to,ht⟩:∃to,to=if cB=2 then o.bB.fr else o.bB.to:=⟨_,rfl⟩;rw[io h0 hB ht];grind [Do]
 .rw[ja h0];grind
def zg{d F cB Φ G:Int}:∀{os:List B0} {S:Χ},gm S<=gm (cm d F cB Φ G os S).2.2
 | [],S=>au _
 | o::os,S=>by
  simp only[cm];exact aQ ze zg
theorem uk{d F cB Φ G:Int}{o:B0}{S:Χ}{c:D4}(hS:J6 d c (gm S) S)(hk:gm S+eU o<=2000)(a2:id F)(ho:Ma o):Ma (dE d F cB Φ G o S).2.1/\∀y∈(dE d F cB Φ G o S).1,MJ d 3 y:=by
 by_cases h0:o.state=0
 .have hh:eU o=o.bB.am.length:=μ h0;by_cases hB:cB=1/\o.bB.ts≠d
  .rw[jA h0 hB];split
   .rename_i hg;have r:gm S+C2 (Ij Φ 0 o.bB.am)<=2000:=by rw[ik];omega
    have J:=wv hS r hg;have U:=DE hS (Κ:=6) (G:=G) r;have I:Ma { o with state:=1,Ι:=Kc S 6 G (Ij Φ 0 o.bB.am) }:=⟨ho.1,ho.2.1,ay,U⟩;refine⟨I,λy Z=>?_⟩;obtain rfl:=D6 Z;exact⟨lD a2 I,(show(3:Int)<5 by decide),(show(5:Int)<=6 by decide),rfl,λq=>iW q hB.2⟩
   grind
  .obtain⟨to,ht⟩:∃to,to=if cB=2 then o.bB.fr else o.bB.to:=⟨_,rfl⟩;rw[io h0 hB ht];split
   .exact⟨⟨ho.1,ho.2.1,ho.2.2.1,ho.2.2.2⟩,λy Z=>by cases Z⟩
   grind
 grind [ja]
theorem ul{d F cB Φ G:Int}{c:D4}(r:id F):∀{os:List B0} {S:Χ},J6 d c (gm S) S->gm S+cy os<=2000->(∀o∈os,Ma o)->(∀o∈(cm d F cB Φ G os S).2.1,Ma o)/\∀y∈(cm d F cB Φ G os S).1,MJ d 3 y
 | [],S,_,_,_=>⟨λo h=>iW h aD,λy h=>iW h aD⟩
 | o::os,S,h,hk,ho=>by
  have e2:∀(a:B0) (l:List B0),cy (a::l)=eU a+cy l:=by grind [cy]
  rw[e2] at hk;have J:=rT (F:=F) (cB:=cB) (Φ:=Φ) (G:=G) (o:=o) h B;have U:=uk (F:=F) (cB:=cB) (Φ:=Φ) (G:=G) h B r (ho o az);have h3:=ul (cB:=cB) (Φ:=Φ) (G:=G) r (os:=os) J.1 B ay;grind [cm]
def Av{d to kd Κ F eZ:Int}{yes:Bool}(J:id Κ)(U:id F)(h3:id eZ)(h4:kd<Κ)(h5:Κ<=6):MJ d kd ⟨d,to,E3 Κ F eZ yes⟩:=⟨iH J U h3,h4,h5,rfl,λ_=>rfl⟩
def pP{d kd:Int}{gs W:List Int}{ct:IF}(h:Kp ct)(hk:kd<ct.Κ)(r:ct.Κ<=6)(hl:ct.Η=[]):∀y∈cJ d gs W ct,MJ d kd y:=λy Z=>by
 unfold cJ at Z;obtain⟨g,_,rfl⟩:=IY Z;exact⟨h,hk,r,rfl,λ_=>hl⟩
def zx{d:Int}:∀{k:Int} {ls:List G7},(∀l∈ls,kC l)->0<=k->k+ls.length<=1000000->(II d k ls).length<=ls.length/\∀o∈II d k ls,Ma o
 | _,[],_,_,_=>⟨au _,λo h=>iW h aD⟩
 | k,l::ls,h,h0,J=>by
  rw[aO] at J ⊢;have ih:=zx (d:=d) (k:=k+1) (ls:=ls) (λx K=>h x (aB _ K)) B B;unfold II;split
  .rw[aO];refine⟨B,λo ho=>?_⟩;rcases Jr ho with rfl|ho
   .exact⟨h l az,by unfold id;dsimp only;omega,aC _,λf hf=>by cases hf⟩
   .exact ih.2 o ho
  .exact⟨B,ih.2⟩
def vB(d:Int):∀(k:Int) (ls:List G7),∀o∈II d k ls,o.state=0
 | _,[],o,h=>iW h aD
 | k,l::ls,o,h=>by
  have ih:=vB d (k+1) ls o;have e1:II d k (l::ls)=if l.d=d then⟨l,k,0,[]⟩::II d (k+1) ls else II d (k+1) ls:=rfl;rw[e1] at h;split at h
  .rcases Jr h with rfl|h
   .rfl
   .exact ih h
  .exact ih h
def L1(ζ:D4)(d kd:Int)(b:Nat)(Θ:Ja):Prop:=IU ζ d Θ.2.1 Θ.2.2/\gm Θ.2.2+E9 Θ.2.1<=b/\∀y∈Θ.1,MJ d kd y
theorem L1.none{ζ:D4}{d kd:Int}{b:Nat}{N:eu}{S:Χ}(h:IU ζ d N S)(hb:gm S+E9 N<=b):L1 ζ d kd b ([],N,S):=⟨h,hb,λy Z=>iW Z aD⟩
def IU.Kd{ζ:D4}{d:Int}{N:eu}{S:Χ}(h:IU ζ d N S){F:Int}{x:J7}(K:x.B3.length<=100):IU ζ d { N with δ:=fc N.δ F x } S :=
 ⟨h.Ik,h.hl,h.nd,λp hp=>by
  rcases iV hp with rfl|hp
  .exact K
  .exact h.No p hp,h.pts⟩
theorem IU.Ky{ζ:D4}{d:Int}{N:eu}{S S' : Χ}(h:IU ζ d N S)(hS:J6 d ζ (gm S') S')(hk:gm S<=gm S'){F:Int}{p:Lb}(hp:P6 p):IU ζ d { N with Ζ:=fc N.Ζ F p } S' :=
 ⟨hS,⟨h.hl.1,by have:=h.hl.2;grind⟩,gY h.nd,h.No,λq hq=>by
  rcases iV hq with rfl|hq
  .exact hp
  .exact h.pts q hq⟩
theorem Eq{ζ:D4}{d ms G:Int}{m:IF}{N:eu}{S:Χ}(hN:IU ζ d N S)(hm:Kp m){b:Nat}(hb:gm S+E9 N<=b):L1 ζ d 2 b (dy d ms m G N S):=by
 unfold dy;cases hl:dV N.δ m.F with
 | none=>exact L1.none hN hb
 | some x =>
  have K:=hN.No _ (bT hl);dsimp only;have h3:id 3:=by unfold id;omega
  have h0:id 0:=by unfold id;omega
  split
  .exact L1.none hN hb
  .split
   .exact⟨hN.Kd K,hb,pP (iH h3 hm.num.2.1 h0) (show(2:Int)<3 by decide) (show(3:Int)<=6 by decide) rfl⟩
   .split
    .exact⟨hN.Kd K,hb,λy Z=>ay⟩
    .exact⟨hN.Kd K,hb,pP (iH h3 hm.num.2.1 h0) (show(2:Int)<3 by decide) (show(3:Int)<=6 by decide) rfl⟩
theorem Es{ζ:D4}{d ms:Int}{m:IF}{N:eu}{S:Χ}(hN:IU ζ d N S){b:Nat}(hb:gm S+E9 N<=b):L1 ζ d 4 b (iy ms m N S):=by
 unfold iy eu.Kd;cases hl:dV N.δ m.F with
 | none=>exact L1.none hN hb
 | some x=>exact⟨hN.Kd (hN.No _ (bT hl)),hb,λy Z=>ay⟩
theorem wk(eZ:Int):∀os:List B0,cy (os.map (je eZ))=cy os
 | []=>rfl
 | o::os=>by
  have e2:∀(a:B0) (l:List B0),cy (a::l)=eU a+cy l:=λa l=>by unfold cy;rw[aF,bZ]
  rw[aF,e2,e2,wk eZ os];congr 1;unfold je;split
  .rename_i h;unfold eU;rw[Ω (show ¬(2:Int)=0 by decide),Ω (by rw[h.2];decide)]
  .rfl
theorem GM{ζ:D4}{d:Int}{m:IF}{N:eu}{S:Χ}(hN:IU ζ d N S){b:Nat}(hb:gm S+E9 N<=b):L1 ζ d 6 b (Mb m N S):=by
 unfold Mb eu.Ky;cases hl:dV N.Ζ m.F with
 | none=>exact L1.none hN hb
 | some p =>
  have hp:=hN.pts _ (bT hl);refine⟨hN.Ky hN.Ik B ⟨?_,λo ho=>?_⟩,?_,λy Z=>ay⟩
  .rw[ah];exact hp.Η
  .obtain⟨q,hq,rfl⟩:=IY ho;have r:=hp.ow q hq;unfold je;split
   .exact⟨r.1,r.2.1,r.2.2.1,r.2.2.2⟩
   omega
  .have J:=pA (q:={ p with Η:=p.Η.map (je m.eZ) }) hN.nd hl;grind [wk]
theorem Cd{ζ:D4}{d G:Int}{m:IF}{N:eu}{S:Χ}(hN:IU ζ d N S)(hm:Kp m){b:Nat}(hb:gm S+E9 N<=b)(a2:b<=2000):L1 ζ d 3 b (dX d m G N S):=by
 have h4:id 4:=by unfold id;omega
 have h0:id 0:=by unfold id;omega
 have r:MJ d 3 ⟨d,db m.F,E3 4 m.F 0 false⟩:=Av h4 hm.num.2.1 h0 ac ac;unfold dX;cases hl:dV N.Ζ m.F with
 | none =>
  refine⟨hN.Ky hN.Ik B ⟨aC _,ay⟩,?_,λy Z=>?_⟩
  .have J:=pB (q:=⟨3,0,[]⟩) hN.nd hl;grind [cy]
  grind
 | some p =>
  have hp:=hN.pts _ (bT hl);have I:=pC (bT hl);dsimp only at I ⊢;split
  .have J:=pq (d:=d) (F:=m.F) (cB:=if m.yes=true then 1 else 2) (Φ:=p.Φ) (G:=G) (os:=p.Η) hN.Ik B;have U:=ul (d:=d) (cB:=if m.yes=true then 1 else 2) (Φ:=p.Φ) (G:=G) hm.num.2.1 (os:=p.Η) hN.Ik B hp.ow;have h3:=lR d m.F (if m.yes=true then 1 else 2) p.Φ G p.Η S;refine⟨hN.Ky J.1 zg ⟨?_,U.1⟩,?_,λy Z=>?_⟩
   .show(cm d m.F (if m.yes=true then 1 else 2) p.Φ G p.Η S).2.1.length<=32;rw[h3];exact hp.Η
   .have h5:=pA (q:=⟨if m.yes=true then 1 else 2,p.Φ,(cm d m.F (if m.yes=true then 1 else 2) p.Φ G p.Η S).2.1⟩) hN.nd hl;grind
   grind
  .refine⟨hN,hb,λy Z=>?_⟩;obtain rfl:=D6 Z;exact r
theorem EI{ζ:D4}{d G:Int}{m:IF}{N:eu}{S:Χ}(hN:IU ζ d N S)(hm:Kp m){b:Nat}(hb:gm S+E9 N+2*Kh m.Η<=b)(a4:b<=2000):L1 ζ d 1 b (fQ d m G N S):=by
 have U:id 2:=by unfold id;omega
 have h0:id 0:=by unfold id;omega
 have hv:∀y:Bool,MJ d 1 ⟨d,db m.F,E3 2 m.F 0 y⟩:=λy=>Av U hm.num.2.1 h0 ac ac;have b0:=sg d 0 m.Η;unfold fQ;cases hl:dV N.Ζ m.F with
 | some p =>
  refine⟨hN,by dsimp only;omega,λy Z=>?_⟩;obtain rfl:=D6 Z;exact hv _
 | none =>
  dsimp only;have a3:=hm.Η;have r:=zx (d:=d) (k:=0) hm.lg B B;have a2:∀o∈II d 0 m.Η,o.state=0:=vB d 0 m.Η;have a9:=oG (268435456+N.hl) (II d 0 m.Η) a2;split
  .rename_i hg;have a7:=DF hg;have a5:=(wt hg).2.1;have a6:=zA (fU (268435456+N.hl) (II d 0 m.Η));have hS:J6 d ζ (gm (Jo S 2 G (fU (268435456+N.hl) (II d 0 m.Η)))) (Jo S 2 G (fU (268435456+N.hl) (II d 0 m.Η))):=P7.post hN.Ik _ (by show gm S+C2 (fU (268435456+N.hl) (II d 0 m.Η))<=2000;omega);have hP:=hN.Ky (F:=m.F) (p:=⟨0,268435456+N.hl,II d 0 m.Η⟩) hS B ⟨ay,r.2⟩;have I:=pB (q:=⟨0,268435456+N.hl,II d 0 m.Η⟩) hN.nd hl;refine⟨⟨hP.Ik,?_,hP.nd,hP.No,hP.pts⟩,?_,λy Z=>?_⟩
   .have:=hN.hl
    grind
   .grind [E9]
   grind
  .have I:=pB (q:=⟨3,268435456+N.hl,[]⟩) hN.nd hl;refine⟨hN.Ky hN.Ik B ⟨aC _,ay⟩,?_,λy Z=>?_⟩
   .grind [cy]
   grind
theorem Cy{ζ:D4}{d ms G:Int}{m:IF}{N:eu}{S:Χ}(hN:IU ζ d N S)(hm:Kp m){b:Nat}(hb:gm S+E9 N+2*Kh m.Η<=b)(I:b<=2000):L1 ζ d 5 b (dO d ms m G N S):=by
 have h6:id 6:=by unfold id;omega
 have hv:MJ d 5 ⟨d,ms,E3 6 m.F m.eZ false⟩:=Av h6 hm.num.2.1 hm.num.2.2 ac ac;unfold dO;split
 .refine⟨hN,by dsimp only;omega,λy Z=>?_⟩;obtain rfl:=D6 Z;exact hv
 .split
  .rename_i U;have r:m.Η[0]!∈m.Η:=by rw[C5 B];exact ay
   have ha:=sJ r;have a3:=qs (to:=m.Η[0]!.to) U.2;split
   .rename_i hg;have a2:=DF hg;have hS:J6 d ζ (gm (Jo S 5 G (Kz m.Η[0]!.to m.Η[0]!.am m.Ι))) (Jo S 5 G (Kz m.Η[0]!.to m.Η[0]!.am m.Ι)):=P7.post hN.Ik _ (by show gm S+C2 (Kz m.Η[0]!.to m.Η[0]!.am m.Ι)<=2000;omega);refine⟨⟨hS,⟨hN.hl.1,by have:=hN.hl.2;grind⟩,hN.nd,hN.No,hN.pts⟩,?_,λy Z=>?_⟩
    .grind [E9]
    grind
   .exact L1.none hN B
  .exact L1.none hN B
theorem qy{ζ:D4}{d ms G:Int}{m:IF}{N:eu}{S:Χ}(hN:IU ζ d N S)(hm:Kp m){b:Nat}(hb:gm S+E9 N+2*Kh m.Η<=b)(r:b<=2000):L1 ζ d m.Κ b (bk d ms m G N S):=by
 grind [bk,EI,Eq,Cd,Es,Cy,GM,L1.none]
def bQ{α:Type}(f:α->eu->Χ->Ja):List α->eu->Χ->Ja
 | [],N,S=>([],N,S)
 | m::l,N,S=>((f m N S).1++(bQ f l (f m N S).2.1 (f m N S).2.2).1,(bQ f l (f m N S).2.1 (f m N S).2.2).2.1,(bQ f l (f m N S).2.1 (f m N S).2.2).2.2)
theorem rI{α:Type}(f:α->eu->Χ->Ja)(m:α):∀(l:List α) (N:eu) (S:Χ),bQ f (l++[m]) N S=((bQ f l N S).1++(f m (bQ f l N S).2.1 (bQ f l N S).2.2).1,(f m (bQ f l N S).2.1 (bQ f l N S).2.2).2.1,(f m (bQ f l N S).2.1 (bQ f l N S).2.2).2.2)
 | [],N,S=>by grind [bQ]
 | x::l,N,S=>by
  rw[aj];simp only[bQ];rw[rI f m l];simp only[ax]
theorem nO{α:Type}[Inhabited α](f:α->eu->Χ->Ja)(l:List α)(N:eu)(S:Χ){i:Nat}(h:i<l.length):bQ f (l.take (i+1)) N S=((bQ f (l.take i) N S).1++(f l[i]! (bQ f (l.take i) N S).2.1 (bQ f (l.take i) N S).2.2).1,(f l[i]! (bQ f (l.take i) N S).2.1 (bQ f (l.take i) N S).2.2).2.1,(f l[i]! (bQ f (l.take i) N S).2.1 (bQ f (l.take i) N S).2.2).2.2):=by
 grind [av,rI]
noncomputable def bF(d G:Int):Nat->xs->eu->Χ->Ja
 | 0,_,N,S=>([],N,S)
 | Ξ+1,m,N,S=>if m.to≠d then([m],N,S) else bQ (bF d G Ξ) (bk d m.Ψ m.ct G N S).1 (bk d m.Ψ m.ct G N S).2.1 (bk d m.Ψ m.ct G N S).2.2
def Ld(k:Int):Nat:=if k<=2 then 3300 else if k=3 then 33 else 1
theorem sG(k:Int):1<=Ld k:=by
 grind [Ld]
theorem qM{k j:Int}(h:k<j):Ld j<=Ld (k+1):=by
 grind [Ld]
theorem oP{ζ:D4}{d ms G:Int}{m:IF}{N:eu}{S:Χ}(hN:IU ζ d N S):(bk d ms m G N S).1.length*Ld (m.Κ+1)<=Ld m.Κ:=by
 have tl:∀(gs:List Int) (ct:IF),gs.length<=100->(cJ d gs [] ct).length<=100:=by grind [jJ]
 unfold bk;split
 .rename_i h;rw[h]
  have:(fQ d m G N S).1.length=1:=by
   unfold fQ;split
   .rfl
   .split<;>rfl
  rw[this];decide
 split
 .rename_i h;rw[h]
  have:(dy d ms m G N S).1.length<=100:=by
   unfold dy;cases hl:dV N.δ m.F with
   | none=>grind
   | some x =>
    have K:=hN.No _ (bT hl);grind
  grind [Ld]
 split
 .rename_i h;rw[h]
  have:(dX d m G N S).1.length<=33:=by
   unfold dX;cases hl:dV N.Ζ m.F with
   | none=>grind
   | some p =>
    have hp:=(hN.pts _ (bT hl)).Η;grind [ng]
  grind [Ld]
 split
 .show 0*_<=_;omega
 split
 .grind [dO,Ld]
 split
 .show 0*_<=_;omega
 grind
structure Mc (d:Int) (Ξ:Nat) (m:xs):Prop where
 ct:Kp m.ct
 pos:1<=Ξ
 h1:m.to=d->7<=m.ct.Κ+Ξ
def cost(d:Int)(m:xs):Nat:=if m.to=d then 2*Kh m.ct.Η else 0
structure Out (d:Int) (m:xs):Prop where
 ct:Kp m.ct
 to:m.to≠d
def MJ.Rm{d kd:Int}{Ξ:Nat}{y:xs}(h:MJ d kd y)(hd:7<=kd+(Ξ+1:Nat)):Mc d Ξ y/\cost d y=0:=by
 have J:=h.Κ;have U:=h.le;refine⟨⟨h.ct,B,B⟩,?_⟩;unfold cost;split
 .rename_i q;rw[h.h1 q];rfl
 .rfl
theorem pK{ζ:D4}{d:Int}{f:xs->eu->Χ->Ja}{b C:Nat}(P:xs->Prop)(hf:∀m N S,P m->IU ζ d N S->gm S+E9 N<=b->IU ζ d (f m N S).2.1 (f m N S).2.2/\gm (f m N S).2.2+E9 (f m N S).2.1<=b/\(∀y∈(f m N S).1,Out d y)/\(f m N S).1.length<=C) :
  ∀(l:List xs) (N:eu) (S:Χ),(∀m∈l,P m)->IU ζ d N S->gm S+E9 N<=b->IU ζ d (bQ f l N S).2.1 (bQ f l N S).2.2/\gm (bQ f l N S).2.2+E9 (bQ f l N S).2.1<=b/\(∀y∈(bQ f l N S).1,Out d y)/\(bQ f l N S).1.length<=l.length*C
 | [],N,S,_,hN,hb=>⟨hN,hb,λy Z=>iW Z aD,by show 0<=_;omega⟩
 | m::l,N,S,hP,hN,hb=>by
  obtain⟨J,U,h3,h4⟩:=hf m N S ay hN hb;obtain⟨i1,i2,i3,i4⟩:=pK P hf l _ _ ay J U;simp only[bQ];refine⟨i1,i2,λy Z=>?_,?_⟩
  .grind
  .rw[aq,aO,dl];omega
theorem nz{ζ:D4}{d G:Int}{b:Nat}(r:b<=2000):∀(Ξ:Nat) (m:xs) (N:eu) (S:Χ),Mc d Ξ m->IU ζ d N S->gm S+E9 N+cost d m<=b->IU ζ d (bF d G Ξ m N S).2.1 (bF d G Ξ m N S).2.2/\gm (bF d G Ξ m N S).2.2+E9 (bF d G Ξ m N S).2.1<=b/\(∀y∈(bF d G Ξ m N S).1,Out d y)/\(bF d G Ξ m N S).1.length<=Ld m.ct.Κ
 | 0,m,N,S,hm,_,_=>iW hm.pos ac
 | Ξ+1,m,N,S,hm,hN,hb=>by
  unfold bF;by_cases ht:m.to=d
  .rw[Ω B];have hc:cost d m=2*Kh m.ct.Η:=μ ht;rw[hc] at hb;obtain⟨J,U,h3⟩:=qy (ms:=m.Ψ) (G:=G) hN hm.ct hb r;have hl:=oP (ms:=m.Ψ) (G:=G) (m:=m.ct) hN;have ho:=hm.h1 ht
   obtain⟨i1,i2,i3,i4⟩:=pK (C:=Ld (m.ct.Κ+1)) (λy=>MJ d m.ct.Κ y) (λy N' S' Z I a2=>by
    obtain⟨p1,p2⟩:=Z.Rm (Ξ:=Ξ) B;obtain⟨q1,q2,q3,q4⟩:=nz (G:=G) r Ξ y N' S' p1 I B;exact⟨q1,q2,q3,aQ q4 (qM Z.Κ)⟩) _ _ _ h3 J U
   grind
  .rw[μ ht];refine⟨hN,ay,λy Z=>?_,sG _⟩;obtain rfl:=D6 Z;exact⟨hm.ct,ht⟩
def qH(f:xs->eu->Χ->Ja):∀(l:List xs) (N:eu) (S:Χ) (i:Nat),(bQ f (l.take i) N S).1.length<=(bQ f l N S).1.length
 | [],N,S,i=>by rw[List.take_nil];exact au _
 | m::l,N,S,0=>aC _
 | m::l,N,S,i+1=>by
  have:=qH f l (f m N S).2.1 (f m N S).2.2 i
  rw[List.take_succ_cons];simp only[bQ,aq];omega
def pi(k:Int):Ld k<=3300:=by
 unfold Ld;split
 .exact au _
 .split<;>decide
def Mn(bn br bt bp nb:Nat)(G:Int)(JK:OA)(rl JL:Nat)(L:LH):LH:=obj bn 62 [al nb]::obj br 40 [ae JK rl JL]::obj bt kR [E G]::obj bp 248 [.func (.func 136) #[] #[al bn,al br,al bt,al bp]]::L
attribute [local irreducible] Δ R GP Ο h2 GF GE O Ef A8 A CB GB V.Enters
abbrev ya:=Uv [.ev 6]
def Ry{φ ψ:Prop}(k:ψ)(h:Hid ψ->φ:=by intro k;(repeat (first|refine aa ?_|intro sh|refine Δ.dr 32 1 ya ?_));(repeat revert sh);exact Hid.out k):φ:=h ⟨k⟩
def ta(nb lb:Nat)(d Q:Int)(ζ:D4)(b:Nat)(b9:b<=2000)(G:Int)(bn br bt bp:Nat):∀(Ξ:Nat) (L:LH) (n:E0) (S:Χ) (x:JQ) (JK:OA) (JL:Nat) (rs:List JQ),Mc d Ξ x.m->IU ζ d n.m S->gm S+E9 n.m+cost d x.m<=b->rs.length+(bF d G Ξ x.m n.m S).1.length<=1000000 ->
  Λ Ε 136 #[bh (aV x),al bn,al br,al bt,al bp] (Mn bn br bt bp nb G JK rs.length JL (Υ aV 3 hy JK JL rs::Ρ cV rs::cV x::a1 nb lb d Q n (aN lb S::L)))
   (λ_ Y=>∃b2 a5 b6 n',b6.map (·.m)=rs.map (·.m)++(bF d G Ξ x.m n.m S).1/\n'.m=(bF d G Ξ x.m n.m S).2.1/\Y = Mn bn br bt bp nb G b2 b6.length a5 (Υ aV 3 hy b2 a5 b6::Ρ cV b6::a1 nb lb d Q n' (aN lb (bF d G Ξ x.m n.m S).2.2::L)))
 | 0,L,n,S,x,JK,JL,rs,hm,_,_,_=>iW hm.pos ac
 | Ξ+1,L,n,S,x,JK,JL,rs,hm,hN,hb,hlen=>by
  refine Λ.bd ?_;simp only[Mn,a1,cw];by_cases ht:x.m.to=d
  case neg =>
   have hr:bF d G (Ξ+1) x.m n.m S=([x.m],n.m,S):=μ ht;rw[hr] at hlen ⊢;have c4:rs.length+1<=1000000:=hlen;refine Ry ?_;intros;refine R.ef (Ef.a8 (Β:=aV) (e:=x) rfl rfl rfl rfl rfl aS (dG _) B B) ac ?_;rintro _ _⟨c6,b8,rfl,rfl⟩;refine Ry ?_;intros;refine KX.a8 aw ?_ ⟨c6,b8,rs++[x],n,by rw[aL];rfl,rfl,rfl⟩;simp only[Mn,a1,cw];refine(A.at (Μ:=cV x) (A.d7 (f:=cV) ed)).trans ?_;refine(A.at (Μ:=Ρ cV [x]) (A.refl _)).trans ?_;refine(A.at (Μ:=Ρ cV rs) (A.refl _)).trans ?_;refine(A.c9 (f:=cV) ed).trans ?_;exact ag
  have hr:bF d G (Ξ+1) x.m n.m S=bQ (bF d G Ξ) (bk d x.m.Ψ x.m.ct G n.m S).1 (bk d x.m.Ψ x.m.ct G n.m S).2.1 (bk d x.m.Ψ x.m.ct G n.m S).2.2:=Ω (λq=>q ht);rw[hr] at hlen ⊢;have hc:cost d x.m=2*Kh x.m.ct.Η:=μ ht;rw[hc] at hb;obtain⟨g1,g2,g3⟩:=qy (ms:=x.m.Ψ) (G:=G) hN hm.ct hb b9;have e4:=hm.h1 ht;have e3:(bk d x.m.Ψ x.m.ct G n.m S).1.length<=3300:=aQ (Nat.le_mul_of_pos_right _ (sG (x.m.ct.Κ+1))) (aQ (oP (ms:=x.m.Ψ) (G:=G) (m:=x.m.ct) hN) (pi _))
  have a7:=pK (ζ:=ζ) (d:=d) (f:=bF d G Ξ) (b:=b) (C:=Ld (x.m.ct.Κ+1)) (λy=>MJ d x.m.ct.Κ y) (λy N' S' Z d2 d3=>by
   obtain⟨p1,p2⟩:=Z.Rm (Ξ:=Ξ) B;obtain⟨q1,q2,q3,q4⟩:=nz (G:=G) b9 Ξ y N' S' p1 d2 (by rw[p2];exact d3);exact⟨q1,q2,q3,aQ q4 (qM Z.Κ)⟩)
  refine Ry ?_;intros;rename_i b5;refine R.υ (Y:=cV x::a1 nb lb d Q n (aN lb S::(obj bn 62 [al nb]::obj br 40 [ae JK rs.length JL]::obj bt kR [E G]::obj bp 248 [.func (.func 136) #[] #[al bn,al br,al bt,al bp]]::Υ aV 3 hy JK JL rs::Ρ cV rs::L))) (by simp only[a1,cw];exact ag) ?_;refine R.ca (pY nb lb d Q n S ζ x hm.ct hN B G) ?_;generalize bk d x.m.Ψ x.m.ct G n.m S=H at *;rintro _ _⟨b4,a2,T,n1,rfl,c2,d5,rfl⟩;refine Ry ?_;intros;refine Δ.loop (α:=Nat×E0×OA×Nat×List JQ) (λg=>g.1<=T.length/\g.2.1.m=(bQ (bF d G Ξ) (H.1.take g.1) H.2.1 H.2.2).2.1/\g.2.2.2.2.map (·.m)=rs.map (·.m)++(bQ (bF d G Ξ) (H.1.take g.1) H.2.1 H.2.2).1) (λg=>[(4,al bp),(22,ae b4 T.length a2),(23,E (T.length:Int)),(24,E (g.1:Int))]) (λg=>obj bn 62 [al nb]::obj br 40 [ae g.2.2.1 g.2.2.2.2.length g.2.2.2.1]::obj bt kR [E G]::obj bp 248 [.func (.func 136) #[] #[al bn,al br,al bt,al bp]]::Υ aV 3 hy g.2.2.1 g.2.2.2.1 g.2.2.2.2::Ρ cV g.2.2.2.2::Υ aV 3 hy b4 a2 T::Ρ cV T::a1 nb lb d Q g.2.1 (aN lb (bQ (bF d G Ξ) (H.1.take g.1) H.2.1 H.2.2).2.2::L)) (λg=>T.length - g.1) (0,n1,JK,JL,rs) ⟨aC _,by rw[aU];exact d5,by rw[aU];exact(aJ _).symm⟩ aA ?_ ?_
  .dsimp only;rw[aU];simp only[a1,cw,bQ];exact ag
  rintro⟨i,n2,a3,r,a6⟩ ⟨hi,a4,I⟩;dsimp only at hi a4 I ⊢;have e2:H.1.length=T.length:=by rw[<-c2,ah]
  by_cases c1:i<T.length
  case neg =>
   have d6:H.1.take i=H.1:=aG B;rw[d6] at a4 I ⊢;refine Ry ?_;intros;refine KX.c8 aw ?_ ⟨a3,r,a6,n2,I,a4,rfl⟩;simp only[a1,cw];exact ag
  have d4:(i:Int).toNat=i:=B;have a9:T[i]!∈T:=by rw[C5 c1];exact cG c1
  have d0:H.1[i]! = T[i]!.m:=by rw[<-c2];exact dY (f:=λx:JQ=>x.m) c1
  have d1:T[i]!.m∈H.1:=by rw[<-c2];exact Kg a9
  obtain⟨p1,p2⟩:=(g3 _ d1).Rm (Ξ:=Ξ) B;obtain⟨f1,f2,f3,f4⟩:=a7 (H.1.take i) H.2.1 H.2.2 (λy Z=>g3 y (cl Z)) g1 g2;have b1:=nO (bF d G Ξ) H.1 H.2.1 H.2.2 (i:=i) B;rw[d0] at b1;have c0:=qH (bF d G Ξ) H.1 H.2.1 H.2.2 (i+1)
  have c4:a6.length+(bF d G Ξ T[i]!.m n2.m (bQ (bF d G Ξ) (H.1.take i) H.2.1 H.2.2).2.2).1.length<=1000000:=by
   have e1:=congrArg List.length I;rw[ah,aq,ah] at e1;rw[b1] at c0;dsimp only at c0;rw[aq] at c0;rw[a4];omega
  refine Δ.υ (A.at (Μ:=Ρ cV T) (A.d8 (f:=cV) a9)) ?_;refine Ry ?_;intros;rename_i b7;rw[d4];refine R.υ (Y:=Mn bn br bt bp nb G a3 a6.length r (Υ aV 3 hy a3 r a6::Ρ cV a6::cV T[i]!::a1 nb lb d Q n2 (aN lb (bQ (bF d G Ξ) (H.1.take i) H.2.1 H.2.2).2.2::(Υ aV 3 hy b4 a2 T::Ρ cV T::L)))) (by simp only[Mn,a1,cw];exact ag) ?_;refine R.ef (Ef.c7 (first:=[]) (cap:=[al bn,al br,al bt,al bp]) (vs:=[bh (aV T[i]!)]) (ta nb lb d Q ζ b b9 G bn br bt bp Ξ (Υ aV 3 hy b4 a2 T::Ρ cV T::L) n2 (bQ (bF d G Ξ) (H.1.take i) H.2.1 H.2.2).2.2 T[i]! a3 r a6 p1 (by rw[a4];exact f1) (by rw[p2,a4];exact f2) c4) rfl rfl) ac ?_;rintro _ _⟨c3,b3,e0,n3,b0,c5,rfl⟩;rw[a4] at b0 c5;simp only[Mn];refine Ry ?_;intros;refine⟨(i+1,n3,c3,b3,e0),⟨by dsimp only;omega,by dsimp only;rw[c5,b1],by dsimp only;rw[b0,I,b1,ax]⟩,by dsimp only;omega,?_,?_⟩
  .dsimp only;rw[bC i];exact aA
  .dsimp only;rw[b1,a4];simp only[a1,cw];exact ag
end
section
open Go.V
def fD(d:Int)(l:List xs):Nat:=(l.map (cost d)).sum
def Ce(d:Int)(l:List xs):∀i,fD d (l.take i)<=fD d l:=λi=>by
 have h:=congrArg (λl:List xs=>(l.map (cost d)).sum) (cz i l);simp only[aL,ej] at h;unfold fD;omega
def Cf(d:Int)(l:List xs){i:Nat}(h:i<l.length):fD d (l.take (i+1))=fD d (l.take i)+cost d l[i]!:=by
 unfold fD;rw[av h,aL,ej,C5 h];simp only[aF,aY,bZ,List.sum_nil,dW]
def lJ{ζ:D4}{d G:Int}{Ξ:Nat}:∀(l:List xs) (N:eu) (S:Χ) (b:Nat),b<=2000->(∀m∈l,Mc d Ξ m)->IU ζ d N S->gm S+E9 N+fD d l<=b->IU ζ d (bQ (bF d G Ξ) l N S).2.1 (bQ (bF d G Ξ) l N S).2.2/\gm (bQ (bF d G Ξ) l N S).2.2+E9 (bQ (bF d G Ξ) l N S).2.1<=b/\(∀y∈(bQ (bF d G Ξ) l N S).1,Out d y)/\(bQ (bF d G Ξ) l N S).1.length<=(l.map λm=>Ld m.ct.Κ).sum
 | [],N,S,b,_,_,hN,hb=>⟨hN,by have:fD d []=0:=rfl;show gm S+E9 N<=b;omega,λy Z=>iW Z aD,au _⟩
 | m::l,N,S,b,TZ,hP,hN,hb=>by
  have e:fD d (m::l)=cost d m+fD d l:=by unfold fD;rw[aF,bZ]
  rw[e] at hb;obtain⟨J,U,h3,h4⟩:=nz (G:=G) (b:=gm S+E9 N+cost d m) B Ξ m N S (hP m az) hN (au _);obtain⟨i1,i2,i3,i4⟩:=lJ (G:=G) l (bF d G Ξ m N S).2.1 (bF d G Ξ m N S).2.2 b TZ (λx K=>hP x (aB _ K)) J B;simp only[bQ];refine⟨i1,i2,λy Z=>?_,?_⟩
  .rcases It Z with Z|Z
   .exact h3 y Z
   .exact i3 y Z
  .rw[aq,aF,bZ];omega
noncomputable def Ix(d G:Int)(l:List xs)(N:eu)(S:Χ):Ja:=bQ (bF d G 7) l N S
attribute [local irreducible] Δ R GP Ο h2 GF GE O Ef A8 A CB GB V.Enters bF
def lP{L:LH}(nb lb:Nat)(d Q:Int)(n:E0)(S:Χ)(ζ:D4)(b:Nat)(b8:b<=2000)(G:Int)(M:OA)(cap:Nat)(T:List JQ)(hP:∀m∈T,Mc d 7 m.m)(hN:IU ζ d n.m S)(hb:gm S+E9 n.m+fD d (T.map (·.m))<=b)(c6:T.length<=1000000)(b1:(Ix d G (T.map (·.m)) n.m S).1.length<=1000000) :
  Λ Ε 86 #[al nb,ae M T.length cap,E G] (Υ aV 3 hy M cap T::Ρ cV T::a1 nb lb d Q n (aN lb S::L)) (kD nb lb d Q (Ix d G (T.map (·.m)) n.m S) L):=by
 refine Λ.bd ?_;refine Ih ?_;intros;rename_i bn bt br bp;unfold Ix at b1 ⊢;have c4:(T.map (·.m)).length=T.length:=ah _
 have b6:∀m∈T.map (·.m),Mc d 7 m:=λm hm=>by
  obtain⟨x,K,rfl⟩:=IY hm;exact hP x K
 refine Δ.loop (α:=Nat×E0×OA×Nat×List JQ) (λg=>g.1<=T.length/\g.2.1.m=(bQ (bF d G 7) ((T.map (·.m)).take g.1) n.m S).2.1/\g.2.2.2.2.map (·.m)=(bQ (bF d G 7) ((T.map (·.m)).take g.1) n.m S).1) (λg=>[(7,al br),(8,al bp),(12,ae M T.length cap),(13,E (T.length:Int)),(14,E (g.1:Int))]) (λg=>Mn bn br bt bp nb G g.2.2.1 g.2.2.2.2.length g.2.2.2.1 (Υ aV 3 hy g.2.2.1 g.2.2.2.1 g.2.2.2.2::Ρ cV g.2.2.2.2::Υ aV 3 hy M cap T::Ρ cV T::a1 nb lb d Q g.2.1 (aN lb (bQ (bF d G 7) ((T.map (·.m)).take g.1) n.m S).2.2::L))) (λg=>T.length - g.1) (0,n,none,0,[]) ⟨aC _,by rw[aU];rfl,by rw[aU];rfl⟩ aA ?_ ?_
 .dsimp only;rw[aU];refine(A.c8 aV 3 hy).trans ((A.a8 cV).trans ?_);simp only[Mn,a1,cw,bQ,aX];exact ag
 rintro⟨i,n2,a2,r,a4⟩ ⟨hi,a3,I⟩;dsimp only at hi a3 I ⊢;simp only[Mn];by_cases b2:i<T.length
 case neg =>
  have c2:(T.map (·.m)).take i=T.map (·.m):=aG B;rw[c2] at a3 I ⊢;refine Ih ?_;intros;refine KX.a8 aw ?_ ⟨a2,r,a4,n2,rfl,I,a3,rfl⟩;simp only[a1,cw];exact ag
 have c0:(i:Int).toNat=i:=B;have a5:T[i]!∈T:=by rw[C5 b2];exact cG b2
 have b4:(T.map (·.m))[i]! = T[i]!.m:=dY (f:=λx:JQ=>x.m) b2;have b9:=Cf d (T.map (·.m)) (i:=i) B;have c5:=Ce d (T.map (·.m)) (i+1);rw[b4] at b9;obtain⟨f1,f2,f3,f4⟩:=lJ (G:=G) (Ξ:=7) ((T.map (·.m)).take i) n.m S (gm S+E9 n.m+fD d ((T.map (·.m)).take i)) B (λm hm=>b6 m (cl hm)) hN (au _);have a7:=nO (bF d G 7) (T.map (·.m)) n.m S (i:=i) B;rw[b4] at a7;have b0:=qH (bF d G 7) (T.map (·.m)) n.m S (i+1)
 have c1:a4.length+(bF d G 7 T[i]!.m n2.m (bQ (bF d G 7) ((T.map (·.m)).take i) n.m S).2.2).1.length<=1000000:=by
  have e1:=congrArg List.length I;rw[ah] at e1;rw[a7] at b0;dsimp only at b0;rw[aq] at b0;rw[a3];omega
 refine Δ.υ (A.at (Μ:=Ρ cV T) (A.d8 (f:=cV) a5)) ?_;refine Ih ?_;intros;rename_i b7;rw[c0];refine R.υ (Y:=Mn bn br bt bp nb G a2 a4.length r (Υ aV 3 hy a2 r a4::Ρ cV a4::cV T[i]!::a1 nb lb d Q n2 (aN lb (bQ (bF d G 7) ((T.map (·.m)).take i) n.m S).2.2::(Υ aV 3 hy M cap T::Ρ cV T::L)))) (by simp only[Mn,a1,cw];exact ag) ?_;refine R.ef (Ef.c7 (first:=[]) (cap:=[al bn,al br,al bt,al bp]) (vs:=[bh (aV T[i]!)]) (ta nb lb d Q ζ b b8 G bn br bt bp 7 (Υ aV 3 hy M cap T::Ρ cV T::L) n2 (bQ (bF d G 7) ((T.map (·.m)).take i) n.m S).2.2 T[i]! a2 r a4 (hP _ a5) (by rw[a3];exact f1) (by rw[a3];omega) c1) rfl rfl) ac ?_;rintro _ _⟨b3,a9,c3,n3,a6,b5,rfl⟩;rw[a3] at a6 b5;simp only[Mn];refine Ih ?_;intros;refine⟨(i+1,n3,b3,a9,c3),⟨by dsimp only;omega,by dsimp only;rw[b5,a7],by dsimp only;rw[a6,I,a7]⟩,by dsimp only;omega,?_,?_⟩
 .dsimp only;rw[bC i];exact aA
 .dsimp only;rw[a7,a3];simp only[Mn,a1,cw];exact ag
