/- Lemmas. -/
import Derived.Test.YtlgpgjdggilkgaaGreatDoorEtbk
set_option linter.all false
namespace Go.Proofs.YtlgpgjdggilkgaaGreatDoor
section
open Go.V
def RG.of{g ew : Gh}{d A:Int}{o:hy}(h:RG g d A o)(hG:ew.Α=g.Α)(hX:ew.X (A,o.ω)=g.X (A,o.ω)):RG ew d A o :=
 ⟨(lj hG _).trans h.lg,h.d,λq=>hX.trans (h.x0 q),λq=>hX.trans (h.x1 q)⟩
theorem L5.of{g ew : Gh}{y:eU}(h:L5 g y)(hG:ew.Α=g.Α)(hm:∀k fl,g.X k=some fl->ew.X k=some fl):L5 ew y :=
 ⟨λq=>by rw[hG];exact h.pr q,λq=>by
  obtain⟨l,K,T,h3,h4⟩:=h.tr q;grind [lj]⟩
theorem L5.none{g:Gh}{y:eU}(K:¬y.ct.Δ=1)(h5:¬y.ct.Δ=5):L5 g y:=⟨D,D⟩
structure SL (g:Gh) (d A:Int) (rv:List (Int×Int)) (o:hy) (r:List eU×hy×Ρ) (ew : Gh):Prop where
 Α:ew.Α=g.Α
 ne:∀k,k≠(A,o.ω)->ew.X k=g.X k
 mono:∀k fl,g.X k=some fl->ew.X k=some fl
 gh:Nz ew
 ls:Po ew d rv r.2.2
 ix:r.2.1.ω=o.ω
 ow:RG ew d A r.2.1
 Q:∀y∈r.1,L5 ew y
theorem SL.same{g:Gh}{d A:Int}{rv:List (Int×Int)}{o o' : hy}{S S' : Ρ}{Q:List eU}(hg:Nz g)(h:Po g d rv S')(ho:RG g d A o')(hi:o'.ω=o.ω)(hm:∀y∈Q,L5 g y):SL g d A rv o (Q,o',S') g :=
 ⟨rfl,λ_ _=>rfl,λ_ _ q=>q,hg,h,hi,ho,hm⟩
def tV{g:Gh}{d A:Int}{o:hy}(U:g.Υ (A,o.ω)=some o.Υ)(hX:g.X (A,o.ω)=some o.Κ):L5 g (fF d A o) :=
 ⟨λq=>hD (show(5:Int)=1 from q) ae,λ_=>⟨o.Υ,U,rfl,rfl,hX⟩⟩
theorem xB{g:Gh}{d A bI Ι E:Int}{rv:List (Int×Int)}{o:hy}{S:Ρ}(h:Po g d rv S)(hg:Nz g)(ho:RG g d A o):∃ew,SL g d A rv o (bV d A bI Ι E o S) ew:=by
 unfold bV;by_cases h0:o.state≠0
 .rw[Χ h0];exact⟨g,SL.same (S:=S) hg h ho rfl aj⟩
 rw[Ν h0];by_cases K:bI=1/\o.Υ.ts≠d
 .rw[Χ K];by_cases T:E6 S 6 E (B2 Ι 0 o.Υ.am)=true
  .rw[Χ T];have hX:=ho.x0 D;obtain⟨q1,q2⟩:=h.ZT hg ho.lg ho.d hX T;refine⟨g.put (A,o.ω) (Ny S 6 E (B2 Ι 0 o.Υ.am)),⟨rfl,λk hk=>Gh.a8 _ hk,λk fl q=>?_,q1,q2,rfl,⟨ho.lg,ho.d,aj,λ_=>Gh.c7 _ _ _⟩,λy Y=>?_⟩⟩
   .grind [Gh.a8]
   .rw[F6 Y];exact tV (o:={ o with state:=1,Κ:=Ny S 6 E (B2 Ι 0 o.Υ.am) }) ho.lg (Gh.c7 _ _ _)
  .rw[Ν T];exact⟨g,SL.same (S:=S) hg h ho rfl aj⟩
 rw[Ν K];generalize (if bI=2 then o.Υ.fr else o.Υ.to)=t;by_cases T:E6 S 2 E (B2 Ι t o.Υ.am)=true
 .rw[Χ T];exact⟨g,SL.same (S:=S) hg (h.XZ E _) ⟨ho.lg,ho.d,aj,aj⟩ rfl aj⟩
 .rw[Ν T];exact⟨g,SL.same (S:=S) hg h ho rfl aj⟩
def Dd{g:Gh}{d A bI Ι E:Int}{rv:List (Int×Int)}{o:hy}{S:Ρ}(h:Po g d rv S)(hg:Nz g)(ho:RG g d A o):∃ew,SL g d A rv o (B8 d A bI Ι E o S) ew:=by
 unfold B8;by_cases K:o.state=1
 .rw[Χ K];exact⟨g,SL.same (S:=S) hg h ho rfl λy Y=>by rw[F6 Y];exact tV ho.lg (ho.x1 K)⟩
 .rw[Ν K];exact xB h hg ho
structure X0 (g:Gh) (d A:Int) (rv:List (Int×Int)) (os:List hy) (r:List eU×List hy×Ρ) (ew : Gh):Prop where
 Α:ew.Α=g.Α
 ne:∀k,(k.1=A->k.2∉os.map (·.ω))->ew.X k=g.X k
 mono:∀k fl,g.X k=some fl->ew.X k=some fl
 gh:Nz ew
 ls:Po ew d rv r.2.2
 ix:r.2.1.map (·.ω)=os.map (·.ω)
 ow:∀o∈r.2.1,RG ew d A o
 Q:∀y∈r.1,L5 ew y
theorem Cq{f:hy->Ρ->List eU×hy×Ρ}{d A:Int}{rv:List (Int×Int)}(hf:∀g S o,Po g d rv S->Nz g->RG g d A o->∃ew,SL g d A rv o (f o S) ew):∀(os:List hy) (g:Gh) (S:Ρ),Po g d rv S->Nz g->(∀o∈os,RG g d A o)->(os.map (·.ω)).Nodup->∃ew,X0 g d A rv os (xs f os S) ew
 | [],g,S,h,hg,_,_=>⟨g,rfl,λ_ _=>rfl,λ_ _ q=>q,hg,h,rfl,λo ho=>(by cases ho),λy Y=>(by cases Y)⟩
 | o::os,g,S,h,hg,ho,hn=>by
  rw[aq,eD] at hn;obtain⟨g1,q⟩:=hf g S o h hg aj;have B:∀x∈os,RG g1 d A x:=λx O=>(ho x aj).of q.Α (q.ne _ aj);obtain⟨g2,p⟩:=Cq hf os g1 (f o S).2.2 q.ls q.gh B hn.2;refine⟨g2,p.Α.trans q.Α,λk hk=>?_,λk fl e=>p.mono k fl (q.mono k fl e),p.gh,p.ls,?_,λx O=>?_,λy Y=>?_⟩
  .rw[p.ne k aj];exact q.ne k aj
  .show List.map _ ((f o S).2.1::(xs f os (f o S).2.2).2.1)=_;rw[aq,aq,q.ix,p.ix]
  .rcases Nj O with rfl|O
   .exact q.ow.of p.Α (p.ne _ λ_ m=>hn.1 (by rw[q.ix] at m;exact m))
   .exact p.ow x O
  .rcases J8 Y with Y|Y
   .exact(q.Q y Y).of p.Α p.mono
   .exact p.Q y Y
theorem iB(d A bI Ι E:Int):∀(os:List hy) (S:Ρ),cG d A bI Ι E os S=xs (bV d A bI Ι E) os S
 | [],_=>rfl
 | o::os,S=>by
  simp only[cG,xs];rw[iB d A bI Ι E os]
structure Ni (g:Gh) (d:Int) (N:υ) (S:Ρ):Prop where
 ls:Po g d N.sh S
 bg:∀A x,ζ N.Φ A=some x->g.Α A=some x.Z
 pt:∀A p,ζ N.Β A=some p->(∀o∈p.Z,RG g d A o)/\(p.Z.map (·.ω)).Nodup
 has:∀k l,g.Υ k=some l->l.d=d->g.X k≠none->ζ N.Β k.1≠none
structure RH (d:Int) (g ew : Gh):Prop where
 Α:ew.Α=g.Α
 mono:∀k fl,g.X k=some fl->ew.X k=some fl
 OK:∀k l,g.Υ k=some l->l.d≠d->ew.X k=g.X k
theorem RH.refl(d:Int)(g:Gh):RH d g g:=⟨rfl,λ_ _ q=>q,aj⟩
theorem RH.trans{d:Int}{g g1 g2:Gh}(h:RH d g g1)(k:RH d g1 g2):RH d g g2 :=
 ⟨k.Α.trans h.Α,λa b q=>k.mono a b (h.mono a b q),λa l q1 q2=>(k.OK a l ((lj h.Α a).trans q1) q2).trans (h.OK a l q1 q2)⟩
def I5(g:Gh)(d:Int)(r:L8):Prop:=∃ew,RH d g ew/\Nz ew/\Ni ew d r.2.1 r.2.2/\∀y∈r.1,L5 ew y
theorem I5.same{g:Gh}{d:Int}{Q:List eU}{N:υ}{S:Ρ}(hg:Nz g)(h:Ni g d N S)(hm:∀y∈Q,L5 g y):I5 g d (Q,N,S):=⟨g,RH.refl d g,hg,h,hm⟩
theorem Ni.J1{g:Gh}{d:Int}{N:υ}{S:Ρ}(h:Ni g d N S){A:Int}{x:K6}(O:g.Α A=some x.Z){c:Int}:Ni g d { N with μ:=c,Φ:=cZ N.Φ A x } S :=
 ⟨h.ls,λj y q=>by
  have q:ζ (cZ N.Φ A x) j=some y:=q;rw[cF] at q;by_cases e:j=A
  .grind
  .rw[Ν e] at q;exact h.bg j y q,h.pt,h.has⟩
theorem Ni.K7{g:Gh}{d:Int}{N:υ}{S S' : Ρ}(h:Ni g d N S)(hS:Po g d N.sh S'){A:Int}{p:NF}(hp:(∀o∈p.Z,RG g d A o)/\(p.Z.map (·.ω)).Nodup){c:Int}:Ni g d { N with U:=c,Β:=cZ N.Β A p } S' :=
 ⟨hS,h.bg,λj y q=>by
  have q:ζ (cZ N.Β A p) j=some y:=q;rw[cF] at q;by_cases e:j=A
  .grind
  .rw[Ν e] at q;exact h.pt j y q,λk l q1 q2 q3=>by
  show ζ (cZ N.Β A p) k.1≠none;rw[cF];by_cases e:k.1=A
  .grind
  .rw[Ν e];exact h.has k l q1 q2 q3⟩
theorem Ni.run{g ew : Gh}{d:Int}{N:υ}{S:Ρ}(h:Ni g d N S){A:Int}{p:NF}(hp:ζ N.Β A=some p){r:List eU×List hy×Ρ}(hr:X0 g d A N.sh p.Z r ew){st:Int}:RH d g ew/\Ni ew d { N with Β:=cZ N.Β A ⟨st,p.Ι,r.2.1⟩ } r.2.2:=by
 obtain⟨p1,p2⟩:=h.pt A p hp;refine⟨⟨hr.Α,hr.mono,λk l q1 q2=>hr.ne k λe m=>?_⟩,⟨hr.ls,λj y q=>by rw[hr.Α];exact h.bg j y q,λj y q=>?_,λk l q1 q2 q3=>?_⟩⟩
 .obtain⟨o,ho,e2⟩:=H9 m;have q3:=(p1 o ho).lg;rw[show(A,o.ω)=k from Prod.ext e.symm e2,q1] at q3;rw[Pr q3] at q2;exact q2 (p1 o ho).d
 .have q:ζ (cZ N.Β A ⟨st,p.Ι,r.2.1⟩) j=some y:=q;rw[cF] at q;by_cases e:j=A
  .rw[Χ e] at q;rw[<-Pr q,e];exact⟨hr.ow,by show(r.2.1.map (·.ω)).Nodup;rw[hr.ix];exact p2⟩
  .rw[Ν e] at q;obtain⟨r1,r2⟩:=h.pt j y q;exact⟨λo ho=>(r1 o ho).of hr.Α (hr.ne _ D),r2⟩
 .show ζ (cZ N.Β A ⟨st,p.Ι,r.2.1⟩) k.1≠none;rw[cF];by_cases e:k.1=A
  .grind
  .rw[Ν e];rw[hr.ne k D] at q3;exact h.has k l ((lj hr.Α k).symm.trans q1) q2 q3
theorem iX{d:Int}:∀{ls:List lu} {k:Int} {o:hy},o∈B3 d k ls->(k<=o.ω/\ls[(o.ω - k).toNat]? = some o.Υ)/\o.Υ.d=d/\o.state=0
 | [],_,_,h=>by cases h
 | l::ls,k,o,h=>by
  unfold B3 at h
  have step:o∈B3 d (k+1) ls->(k<=o.ω/\(l::ls)[(o.ω - k).toNat]? = some o.Υ)/\o.Υ.d=d/\o.state=0:=λh=>by
   obtain⟨⟨q1,q2⟩,q3⟩:=iX h;refine⟨⟨D,?_⟩,q3⟩;rw[show(o.ω - k).toNat=(o.ω - (k+1)).toNat+1 by omega,List.getElem?_cons_succ];exact q2
  grind
def vl{d:Int}:∀(ls:List lu) (k:Int),((B3 d k ls).map (·.ω)).Nodup
 | [],_=>dq
 | l::ls,k=>by
  unfold B3;by_cases e:l.d=d
  .rw[Χ e,aq];refine List.nodup_cons.2 ⟨λh=>?_,vl ls (k+1)⟩;obtain⟨o,ho,he⟩:=H9 h;have:=(iX ho).1.1
   have he:o.ω=k:=he;omega
  .rw[Ν e];exact vl ls (k+1)
theorem im{g:Gh}{d:Int}{gs W:List Int}{ct:G3}(K:ct.Δ=1->g.Α ct.A=some ct.Z)(h5:¬ct.Δ=5):∀y∈ck d gs W ct,L5 g y:=λy Y=>by
 unfold ck at Y;obtain⟨a,_,rfl⟩:=H9 Y;exact⟨K,aj⟩
theorem pY{g:Gh}{Λ to Δ A ω:Int}{yes:Bool}(K:¬Δ=1)(h5:¬Δ=5):∀y∈[(⟨Λ,to,C9 Δ A ω yes⟩:eU)],L5 g y:=λy Y=>by
 rw[F6 Y];exact L5.none K h5
theorem KD{g:Gh}{d E:Int}{m:G3}{N:υ}{S:Ρ}(hg:Nz g)(h:Ni g d N S)(hm:g.Α m.A=some m.Z):I5 g d (eN d m E N S):=by
 unfold eN;cases hp:ζ N.Β m.A with
 | some p=>grind [I5.same,pY]
 | none =>
  dsimp only;by_cases K:E6 S 2 E (dy (268435456+N.U) (B3 d 0 m.Z))=true
  .rw[Χ K];refine I5.same hg (h.K7 (h.ls.XZ E _) ⟨λo ho=>?_,vl m.Z 0⟩) (pY ae ae);obtain⟨⟨q1,q2⟩,q3,q4⟩:=iX ho
   have U:g.Υ (m.A,o.ω)=some o.Υ:=by
    unfold Gh.Υ;rw[hm];dsimp only;rw[Χ q1,<-q2];congr 2;omega
   refine⟨U,q3,λ_=>?_,D⟩;cases hX:g.X (m.A,o.ω) with
   | none=>rfl
   | some fl=>exact hD hp (h.has _ _ U q3 aj)
  .rw[Ν K];exact I5.same hg (h.K7 (c:=N.U) h.ls aj) (pY ae ae)
theorem Kf{g:Gh}{d Λ E:Int}{m:G3}{N:υ}{S:Ρ}(hg:Nz g)(h:Ni g d N S):I5 g d (em d Λ m E N S):=by
 unfold em;cases O:ζ N.Φ m.A with
 | none=>exact I5.same hg h aj
 | some x =>
  have hG:=h.bg m.A x O;dsimp only;split
  .exact I5.same hg h aj
  split
  .exact I5.same hg (h.J1 (c:=N.μ) (by exact hG)) (im (λq=>hD (show(3:Int)=1 from q) ae) (by show ¬(3:Int)=5;decide))
  split
  .exact I5.same hg (h.J1 (c:=N.μ) (by exact hG)) aj
  .exact I5.same hg (h.J1 (c:=N.μ) (by exact hG)) (im (λq=>hD (show(3:Int)=1 from q) ae) (by show ¬(3:Int)=5;decide))
theorem DD{g:Gh}{d A:Int}{N:υ}{S:Ρ}(hg:Nz g)(h:Ni g d N S){p:NF}(hp:ζ N.Β A=some p){f:hy->Ρ->List eU×hy×Ρ}(hf:∀g S o,Po g d N.sh S->Nz g->RG g d A o->∃ew,SL g d A N.sh o (f o S) ew)(st:Int){Q:List eU}(B:∀g y,y∈Q->L5 g y):I5 g d ((xs f p.Z S).1++Q,{ N with Β:=cZ N.Β A ⟨st,p.Ι,(xs f p.Z S).2.1⟩ },(xs f p.Z S).2.2):=by
 obtain⟨p1,p2⟩:=h.pt A p hp;obtain⟨ew,hr⟩:=Cq hf p.Z g S h.ls hg p1 p2;obtain⟨q1,q2⟩:=h.run hp hr (st:=st);refine⟨ew,q1,hr.gh,q2,λy Y=>?_⟩;rcases J8 Y with Y|Y
 .exact hr.Q y Y
 grind
theorem Hw{g:Gh}{d E:Int}{m:G3}{N:υ}{S:Ρ}(hg:Nz g)(h:Ni g d N S):I5 g d (dt d m E N S):=by
 unfold dt;cases hp:ζ N.Β m.A with
 | none=>exact I5.same hg (h.K7 (c:=N.U) h.ls aj) (pY ae ae)
 | some p =>
  grind [iB,DD,xB,pY,I5.same]
theorem Kl{g:Gh}{d Λ:Int}{m:G3}{N:υ}{S:Ρ}(hg:Nz g)(h:Ni g d N S):I5 g d (gc Λ m N S):=by
 unfold gc υ.J1;cases O:ζ N.Φ m.A with
 | none=>exact I5.same hg h aj
 | some x =>
  dsimp only;exact I5.same hg (h.J1 (c:=N.μ) (by exact h.bg m.A x O)) aj
theorem Mq{g:Gh}{d:Int}{m:G3}{N:υ}{S:Ρ}(hg:Nz g)(h:Ni g d N S):I5 g d (O4 m N S):=by
 unfold O4 υ.K7;cases hp:ζ N.Β m.A with
 | none=>exact I5.same hg h aj
 | some p =>
  obtain⟨p1,p2⟩:=h.pt m.A p hp;have B:∀o,(eY m.ω o).ω=o.ω:=λo=>by unfold eY;split<;>rfl
  dsimp only;refine I5.same hg (h.K7 (c:=N.U) h.ls ⟨λo ho=>?_,?_⟩) aj
  .obtain⟨a,ha,rfl⟩:=H9 ho;have q:=p1 a ha;unfold eY;split
   .exact⟨q.lg,q.d,aj,aj⟩
   .exact q
  grind
theorem Id{g:Gh}{d Λ E:Int}{m:G3}{N:υ}{S:Ρ}(hg:Nz g)(h:Ni g d N S)(hm:∃l,g.Υ (m.A,m.ω)=some l/\m.Z=[l]/\l.ts=d/\g.X (m.A,m.ω)=some m.Κ):I5 g d (dU d Λ m E N S):=by
 obtain⟨l,K,T,h3,h4⟩:=hm;unfold dU;by_cases hr:(m.A,m.ω)∈N.sh
 .grind [I5.same,pY]
 rw[Ν hr];split
 .by_cases B:E6 S 5 E (G7 m.Z[0]!.to m.Z[0]!.am m.Κ)=true
  .rw[Χ B];have e:m.Z[0]! = l:=by rw[T];rfl
   rw[e] at B ⊢;exact I5.same hg ⟨h.ls.ZU K h3 h4 hr B,h.bg,h.pt,h.has⟩ (pY ae ae)
  grind [I5.same]
 grind [I5.same]
theorem oT{g:Gh}{d Λ E:Int}{m:G3}{N:υ}{S:Ρ}(hg:Nz g)(h:Ni g d N S){f2:Int}(hm:L5 g ⟨f2,d,m⟩):I5 g d (be d Λ m E N S):=by
 unfold be;by_cases k1:m.Δ=1
 .rw[Χ k1];exact KD hg h (hm.pr k1)
 rw[Ν k1];by_cases k2:m.Δ=2
 .rw[Χ k2];exact Kf hg h
 rw[Ν k2];by_cases k3:m.Δ=3
 .rw[Χ k3];exact Hw hg h
 rw[Ν k3];by_cases k4:m.Δ=4
 .rw[Χ k4];exact Kl hg h
 rw[Ν k4];by_cases k5:m.Δ=5
 .rw[Χ k5];exact Id hg h (hm.tr k5)
 grind [Mq,I5.same]
theorem rK{α:Type}{f:α->υ->Ρ->L8}{d:Int}{P:Gh->α->Prop}(hP:∀g ew a,RH d g ew->P g a->P ew a)(hf:∀a g N S,Nz g->Ni g d N S->P g a->I5 g d (f a N S)):∀(l:List α) (g:Gh) (N:υ) (S:Ρ),Nz g->Ni g d N S->(∀a∈l,P g a)->I5 g d (bS f l N S)
 | [],g,N,S,hg,h,_=>I5.same hg h aj
 | a::l,g,N,S,hg,h,U=>by
  obtain⟨g1,q1,q2,q3,q4⟩:=hf a g N S hg h aj;obtain⟨g2,p1,p2,p3,p4⟩:=rK hP hf l g1 (f a N S).2.1 (f a N S).2.2 q2 q3 aj;refine⟨g2,q1.trans p1,p2,p3,λy Y=>?_⟩;rcases J8 Y with Y|Y
  .exact(q4 y Y).of p1.Α p1.mono
  grind
def L5.ext{d:Int}(g ew : Gh)(y:eU)(h:RH d g ew)(q:L5 g y):L5 ew y:=q.of h.Α h.mono
theorem rA{d E:Int}:∀(Μ:Nat) (m:eU) (g:Gh) (N:υ) (S:Ρ),Nz g->Ni g d N S->L5 g m->I5 g d (bJ d E Μ m N S)
 | 0,_,g,N,S,hg,h,_=>by
  show I5 g d ([],N,S);exact I5.same hg h aj
 | Μ+1,m,g,N,S,hg,h,hm=>by
  have e:bJ d E (Μ+1) m N S=if m.to≠d then([m],N,S) else bS (bJ d E Μ) (be d m.Λ m.ct E N S).1 (be d m.Λ m.ct E N S).2.1 (be d m.Λ m.ct E N S).2.2:=rfl;rw[e];by_cases ht:m.to≠d
  .rw[Χ ht];exact I5.same hg h λy Y=>by rw[F6 Y];exact hm
  .rw[Ν ht];have ht:m.to=d:=Classical.byContradiction ht;obtain⟨g1,q1,q2,q3,q4⟩:=oT (Λ:=m.Λ) (E:=E) hg h (f2:=m.Λ) (m:=m.ct) (by rw[<-ht];exact hm);obtain⟨g2,p1,p2,p3,p4⟩:=rK (P:=L5) (λg ew y=>L5.ext g ew y) (λa g N S=>rA Μ a g N S) _ g1 _ _ q2 q3 q4;exact⟨g2,q1.trans p1,p2,p3,p4⟩
def Ab{g:Gh}{d E:Int}{l:List eU}{N:υ}{S:Ρ}(hg:Nz g)(h:Ni g d N S)(U:∀y∈l,L5 g y):I5 g d (L9 d E l N S) :=
 rK (P:=L5) (λg ew y=>L5.ext g ew y) (λa g N S=>rA 7 a g N S) l g N S hg h U
def I5.then{g:Gh}{d:Int}{r r2:L8}(h:I5 g d r)(hk:∀ew,Nz ew->Ni ew d r.2.1 r.2.2->(∀y∈r.1,L5 ew y)->I5 ew d r2):I5 g d r2:=by
 obtain⟨g1,q1,q2,q3,q4⟩:=h;obtain⟨g2,p1,p2,p3,p4⟩:=hk g1 q2 q3 q4;exact⟨g2,q1.trans p1,p2,p3,p4⟩
theorem KA{g:Gh}{d G E:Int}{x:eU}{N:υ}{S:Ρ}(hg:Nz g)(h:Ni g d N S)(O:L5 g x):I5 g d (dO d G x E N S):=by
 unfold dO;by_cases hc:x.to=d/\(0<=x.Λ/\x.Λ<G)/\x.Λ≠d
 .rw[Χ hc];exact(oT (Λ:=x.Λ) (E:=E) hg h (f2:=x.Λ) (m:=x.ct) (by rw[<-hc.1];exact O)).then λew a b c=>Ab a b c
 grind [I5.same]
theorem HN{g:Gh}{d E A:Int}{N:υ}{S:Ρ}(hg:Nz g)(h:Ni g d N S):I5 g d (Qi d E A N S):=by
 have hU:I5 g d (Nh d E A N S):=by
  unfold Nh;cases O:ζ N.Φ A with
  | none=>exact I5.same hg h aj
  | some x =>
   have hG:=h.bg A x O
   have e1:(cD d A x E).2.Z=x.Z:=by
    unfold cD;split
    .rfl
    split
    .rfl
    .rfl
   dsimp only;refine Ab hg (h.J1 (c:=N.μ) aj) ?_;unfold cD;split
   .exact im (λq=>hD (show(3:Int)=1 from q) ae) (by show ¬(3:Int)=5;decide)
   split
   .exact im (λq=>hD (show(3:Int)=1 from q) ae) (by show ¬(3:Int)=5;decide)
   .exact im (λ_=>hG) aj
 obtain⟨g1,q1,q2,q3,q4⟩:=hU
 have hP:I5 g1 d (K8 d E A (Nh d E A N S).2.1 (Nh d E A N S).2.2):=by
  generalize Nh d E A N S=A9 at *;unfold K8;cases hp:ζ A9.2.1.Β A with
  | none=>exact I5.same q2 q3 aj
  | some p =>
   dsimp only;split
   .have q:=DD q2 q3 hp (f:=B8 d A p.state p.Ι E) (λg S o=>Dd) p.state (Q:=[]) aj;grind
   grind [I5.same]
 obtain⟨g2,p1,p2,p3,p4⟩:=hP;refine⟨g2,q1.trans p1,p2,p3,λy Y=>?_⟩;rcases J8 Y with Y|Y
 .exact(q4 y Y).of p1.Α p1.mono
 grind
theorem Fr{g:Gh}{d E:Int}{N:υ}{S:Ρ}(hg:Nz g)(h:Ni g d N S):I5 g d (dv d E N S) :=
 rK (P:=λ_ _=>True) aj (λa g N S K T _=>HN K T) (ed N) g N S hg h aj
theorem Ni.ext{g ew : Gh}{i d:Int}{N:υ}{S:Ρ}(h:Ni g i N S)(O:RH d g ew)(hi:i≠d):Ni ew i N S:=by
 have hX:∀k l,ew.Υ k=some l->l.d=i->ew.X k=g.X k:=λk l q e=>O.OK k l ((lj O.Α k).symm.trans q) D;have hL:∀k,ew.Υ k=g.Υ k:=lj O.Α;refine⟨⟨h.ls.K1,λk l fl q1 q2 q3=>?_,h.ls.nd,λk hk=>?_,?_⟩,λA x q=>by rw[O.Α];exact h.bg A x q,λA p q=>?_,λk l q1 q2 q3=>?_⟩
 .rw[hX k l q1 q2] at q3;exact h.ls.exp k l fl aj q2 q3
 .obtain⟨l,fl,q1,q2,q3⟩:=h.ls.rc k hk;exact⟨l,fl,(hL k).trans q1,q2,O.mono k fl q3⟩
 .rw[h.ls.imp];exact(h.ls.C8 O.Α O.mono).symm
 .obtain⟨p1,p2⟩:=h.pt A p q;exact⟨λo ho=>(p1 o ho).of O.Α (hX _ o.Υ ((hL _).trans (p1 o ho).lg) (p1 o ho).d),p2⟩
 .rw[hX k l q1 q2] at q3;exact h.has k l aj q2 q3
structure RI (G:Int) (g:Gh) (W:iK):Prop where
 gh:Nz g
 nd:∀i:Int,0<=i/\i<G->Ni g i (W.nd i).1 (W.nd i).2
 Q:∀y∈W.Q,L5 g y
 I:∀k fl l,g.X k=some fl->g.Υ k=some l->0<=l.d/\l.d<G
def Sr(G:Int)(Α:Int->Option (List lu))(W:iK):Prop:=∀A ls,Α A=some ls->∃i c:Int,((0<=i/\i<G)/\A=i*4294967296+c)/\0<=c/\c<(W.nd i).1.μ
theorem yW{W:iK}{d i:Int}{x:υ×Ρ}{G:Int}(U:(W.E7.length:Int)=G)(hs:0<=d/\d<G)(hi:0<=i/\i<G):({ W with E7:=W.E7.set d.toNat x }:iK).nd i=if i=d then x else W.nd i:=by
 grind [iK.nd]
theorem RI.put{G:Int}{g ew : Gh}{W:iK}(h:RI G g W)(U:(W.E7.length:Int)=G){d:Int}(hs:0<=d/\d<G){N:υ}{S:Ρ}(O:RH d g ew)(hg:Nz ew)(hN:Ni ew d N S){Q:List eU}(hm:∀y∈Q,L5 ew y):RI G ew { W with E7:=W.E7.set d.toNat (N,S),Q:=W.Q++Q }:=by
 refine⟨hg,λi hi=>?_,λy Y=>?_,λk fl l q1 q2=>?_⟩
 .have e:({ W with E7:=W.E7.set d.toNat (N,S),Q:=W.Q++Q }:iK).nd i=if i=d then(N,S) else W.nd i:=yW (W:=W) U hs hi;rw[e];by_cases q:i=d
  .grind
  .rw[Ν q];exact(h.nd i hi).ext O q
 .rcases J8 Y with Y|Y
  .exact L5.ext g ew y O (h.Q y Y)
  grind
 .by_cases e:l.d=d
  .omega
  .have q3:=(lj O.Α k).symm.trans q2;rw[O.OK k l q3 e] at q1;exact h.I k fl l q1 q3
def RI.send{G:Int}{g:Gh}{W:iK}(h:RI G g W)(U:(W.E7.length:Int)=G){d:Int}(hs:0<=d/\d<G){r:L8}(hr:I5 g d r):∃ew,ew.Α=g.Α/\RI G ew (W.send d r):=by
 obtain⟨ew,q1,q2,q3,q4⟩:=hr;exact⟨ew,q1.Α,h.put U hs q1 q2 q3 q4⟩
theorem Sr.put{G:Int}{Α:Int->Option (List lu)}{W W' : iK}(h:Sr G Α W)(U:(W.E7.length:Int)=G){d:Int}(hs:0<=d/\d<G){x:υ×Ρ}(hc:(W.nd d).1.μ<=x.1.μ)(hW:W'.E7=W.E7.set d.toNat x):Sr G Α W':=λA ls q=>by
 obtain⟨i,c,⟨q1,q2⟩,q3,q4⟩:=h A ls q;refine⟨i,c,⟨q1,q2⟩,q3,?_⟩;grind [iK.nd]
def Gh.G5(g:Gh)(A:Int)(ls:List lu):Gh:={ g with Α:=λj=>if j=A then some ls else g.Α j }
theorem kJ{g:Gh}{A:Int}{ls:List lu}(h:g.Α A=none){k:Int×Int}{l:lu}(U:g.Υ k=some l):(g.G5 A ls).Υ k=some l:=by
 unfold Gh.Υ at U ⊢;have e:(g.G5 A ls).Α k.1=if k.1=A then some ls else g.Α k.1:=rfl;grind
theorem rx{g:Gh}{A j:Int}{ls B : List lu}(h:g.Α A=none)(U:g.Α j=some B):(g.G5 A ls).Α j=some B:=by
 have e:(g.G5 A ls).Α j=if j=A then some ls else g.Α j:=rfl;grind
theorem RI.G5{G:Int}{g:Gh}{W:iK}(h:RI G g W){A:Int}(ls:List lu)(B:g.Α A=none):RI G (g.G5 A ls) W:=by
 have back:∀k fl l,g.X k=some fl->(g.G5 A ls).Υ k=some l->g.Υ k=some l:=λk fl l q1 q2=>by
  obtain⟨l',p,_⟩:=h.gh.xl k fl q1;grind [kJ]
 refine⟨⟨λk fl q=>?_,h.gh.W4⟩,λi hi=>?_,λy Y=>?_,λk fl l q1 q2=>h.I k fl l q1 (back k fl l q1 q2)⟩
 .obtain⟨l,p1,p2⟩:=h.gh.xl k fl q;exact⟨l,kJ B p1,p2⟩
 .have hN:=h.nd i hi;refine⟨⟨hN.ls.K1,λk l fl q1 q2 q3=>hN.ls.exp k l fl (back k fl l q3 q1) q2 q3,hN.ls.nd,λk hk=>?_,?_⟩,λj x q=>rx B (hN.bg j x q),λj p q=>?_,λk l q1 q2 q3=>?_⟩
  .obtain⟨l,fl,q1,q2,q3⟩:=hN.ls.rc k hk;exact⟨l,fl,kJ B q1,q2,q3⟩
  .rw[hN.ls.imp];refine nA λk hk=>?_;obtain⟨l,fl,q1,q2,q3⟩:=hN.ls.rc k hk;rw[jX q1 q3,jX (g:=g.G5 A ls) (kJ B q1) q3]
  .obtain⟨p1,p2⟩:=hN.pt j p q;exact⟨λo ho=>⟨kJ B (p1 o ho).lg,(p1 o ho).d,(p1 o ho).x0,(p1 o ho).x1⟩,p2⟩
  .cases hX:g.X k with
   | none=>exact hD hX q3
   | some fl=>exact hN.has k l aj q2 aj
 .have hm:=h.Q y Y;refine⟨λq=>rx B (hm.pr q),λq=>?_⟩;obtain⟨l,q1,q2⟩:=hm.tr q;exact⟨l,kJ B q1,q2⟩
def RI.drop{G:Int}{g:Gh}{W:iK}(h:RI G g W){W' : iK}(hn:W'.E7=W.E7)(hm:∀y∈W'.Q,y∈W.Q):RI G g W' :=
 ⟨h.gh,λi hi=>by
  have e:W'.nd i=W.nd i:=by unfold iK.nd;rw[hn]
  rw[e];exact h.nd i hi,λy Y=>h.Q y (hm y Y),h.I⟩
theorem Sr.same{G:Int}{Α:Int->Option (List lu)}{W W' : iK}(h:Sr G Α W)(hn:W'.E7=W.E7):Sr G Α W':=λA ls q=>by
 obtain⟨i,c,q1,q2,q3⟩:=h A ls q;have e:W'.nd i=W.nd i:=by unfold iK.nd;rw[hn]
 exact⟨i,c,q1,q2,aj⟩
def X1(G:Int)(W:iK):Prop:=∃g,RI G g W/\Sr G g.Α W
def W5(l:List (υ×Ρ)):ο:=l.flatMap λp=>dm p.2.Κ
def W6(l:List (υ×Ρ)):ο:=l.flatMap λp=>QS p.2.Κ
structure CvL (l:List (υ×Ρ)):Prop where
 adj:ip (W5 l)
 ai:L7 (W5 l)
 vo:ip (W6 l)
 ao:L7 (W6 l)
 wi:kE (W5 l) (W6 l)
 id:∀p∈l,∀x,p.2.id x=R8 x p.2.Κ
 a1:∀p∈l,∀f∈p.2.Κ,0<=f.a1/\f.a1<4
 fk:∀p∈l,p.2.Κ.length<=dg p.2
 fn:∀p∈l,∀f∈p.2.Κ,1<=f.n/\f.n<=1099511627776
def Hg{d:Int}:∀{ss:List D6} {S:Ρ},Tb d S->dm S.Κ=[]->(∀s∈ss,s.Δ=0)->Tb d (ss.foldl bM S)/\dm (ss.foldl bM S).Κ=[]
 | [],S,h,hi,_=>⟨h,hi⟩
 | s::ss,S,h,hi,hk=>by
  have k0:=hk s aA;obtain⟨q1,_,q3,_⟩:=wu (s:=s) h (by rw[k0];decide) (by rw[k0];decide) (by rw[k0];decide);rw[List.foldl_cons];exact Hg q1 (q3.trans hi) λx O=>hk x (az _ O)
def Mg(i:Int):Tb i (L3 i I6):=⟨rfl,rfl,⟨an _,aC _⟩,aC _,λ_=>rfl,λf hf=>hD hf aG⟩
def Vv.W7{l:List Int}{i:Nat}{s:K2}(h:Vv l i s):Ni ⟨λ_=>none,λ_=>none⟩ i s.n.m s.S:=by
 obtain⟨ss,K,T⟩:=h.sp.run;obtain⟨q1,q2⟩:=Hg (Mg (i:Int)) rfl λs hs=>(K s hs).1;rw[<-T] at q1 q2;rw[h.n];exact⟨⟨q1,λk l fl _ _ q=>hD q (λe=>by cases e),dq,λk hk=>hD hk aG,q2⟩,λA x q=>hD q (λe=>by cases e),λA p q=>hD q (λe=>by cases e),λk l _ _ q=>hD rfl q⟩
def TA.cv{n:Int}{l:List Int}{W:G1}(h:TA n l W):X1 n W.m:=by
 have U:=h.len;refine⟨⟨λ_=>none,λ_=>none⟩,⟨⟨λk fl q=>hD q (λe=>by cases e),λk k' a b q=>hD q (λe=>by cases e)⟩,λi hi=>?_,λy Y=>?_,λk fl l q=>hD q (λe=>by cases e)⟩,λA ls q=>hD q (λe=>by cases e)⟩
 .have B:i.toNat<W.aa.length:=D;have e:W.m.nd i=W.aa[i.toNat]!.m:=eJ (f:=K2.m) B;have q:=(h.sd i.toNat B).W7;rw[show((i.toNat:Nat):Int)=i by omega] at q;rw[e];exact q
 .have Y:y∈W.B4.map (·.m):=Y;rw[h.Q] at Y;cases Y
attribute [local irreducible] Α GO GP δ ms GF GE Ev Ef C0 F CB GB V.Enters bJ L9
end
section
open Go.V
def FO{G:Int}{aa:List K2}{i:Nat}(h:i<aa.length){s:K2}(hs:aa[i]! = s){L:Η}:F (eu s.nb s.lb s.d G s.n (aU s.lb s.S::ey (K5 G) (aa.eraseIdx i)::L)) (ey (K5 G) aa::L):=by
 have q:=XS (G:=G) h (s:=s) s.n s.S (L:=L)
 have e:aa.set i { s with n:=s.n,S:=s.S }=aa:=by
  subst hs;rw[D7 h];exact eC h
 rw[e] at q;exact q
attribute [local irreducible] Α GO GP δ ms GF GE Ev Ef C0 F CB GB V.Enters bJ L9
end
section
open Go.V
theorem kH{α:Type}{f f' : α->Nat}:∀{l:List α},(∀x∈l,f' x<=f x)->(l.map f').sum<=(l.map f).sum
 | [],_=>an _
 | a::l,h=>by
  have:=kH λx O=>h x (az _ O)
  grind
theorem lW{α:Type}{f f' : α->Nat}{Μ:Nat}{a:α}:∀{l:List α},(∀x∈l,f' x<=f x)->a∈l->f' a+Μ<=f a->(l.map f').sum+Μ<=(l.map f).sum
 | b::l,h,hm,hd=>by
  rw[aq,aq,aS,aS];have K:=h b aj;have T:=kH λx O=>h x (az _ O);rcases Nj hm with rfl|hm
  .omega
  .have:=lW aj hm hd
   omega
def cU(g:Gh)(A:Int):List lu:=(g.Α A).getD []
def nP(g:Gh)(R:List Int)(N:υ):Nat:=(R.map λA=>if(ζ N.Β A).isNone=true then 2*NN (cU g A) else 0).sum
def Ux(ls:List lu)(i A:Int)(rv:List (Int×Int))(j:Nat):Nat:=if ls[j]!.ts=i/\¬(A,(j:Int))∈rv then 2*ls[j]!.am.length else 0
def W8(ls:List lu)(i A:Int)(rv:List (Int×Int)):Nat:=((List.range ls.length).map (Ux ls i A rv)).sum
def nR(g:Gh)(R:List Int)(i:Int)(rv:List (Int×Int)):Nat:=(R.map λA=>W8 (cU g A) i A rv).sum
def pn(g:Gh)(R:List Int)(i:Int)(N:υ)(S:Ρ):Nat:=dg S+F0 N+nP g R N+nR g R i N.sh
def Uy{g ew : Gh}(h:ew.Α=g.Α)(R:List Int)(i:Int)(N:υ)(S:Ρ):pn ew R i N S=pn g R i N S:=by
 unfold pn nP nR cU;rw[h]
structure M1 (g:Gh) (R:List Int) (d:Int) (N:υ) (S:Ρ) (r:L8):Prop where
 le:pn g R d r.2.1 r.2.2<=pn g R d N S
 np:(r.2.1.Β.map (·.1)).Nodup
theorem JR{g:Gh}{R:List Int}{N:υ}{A:Int}{q:NF}{c:Int}:nP g R { N with U:=c,Β:=cZ N.Β A q }<=nP g R N:=by
 unfold nP;refine kH λx _=>?_;grind [cF]
theorem Ma{g:Gh}{R:List Int}{N:υ}{A:Int}{q:NF}{c:Int}{ls:List lu}(hG:g.Α A=some ls)(B:A∈R)(hp:ζ N.Β A=none):nP g R { N with U:=c,Β:=cZ N.Β A q }+2*NN ls<=nP g R N:=by
 unfold nP;refine lW (a:=A) (λx _=>?_) B ?_
 .grind [cF]
 grind [cF,cU]
theorem Gt{g:Gh}{R:List Int}{i:Int}{rv:List (Int×Int)}{k:Int×Int}{l:lu}(U:g.Υ k=some l)(hi:l.ts=i)(B:k.1∈R)(hk:k∉rv):nR g R i (rv++[k])+2*l.am.length<=nR g R i rv:=by
 unfold Gh.Υ at U;cases hG:g.Α k.1 with
 | none=>grind
 | some ls =>
  rw[hG] at U;dsimp only at U;by_cases h0:0<=k.2
  case neg=>grind
  rw[Χ h0] at U;obtain⟨hj,he⟩:=List.getElem?_eq_some_iff.1 U;have M:∀A j,Ux (cU g A) i A (rv++[k]) j<=Ux (cU g A) i A rv j:=by grind [Ux]
  unfold nR;refine lW (a:=k.1) (λA _=>kH aj) B ?_;have e1:cU g k.1=ls:=by unfold cU;rw[hG];rfl
  unfold W8;refine lW (a:=k.2.toNat) aj aj ?_;grind [Ux]
theorem M1.same{g:Gh}{R:List Int}{d:Int}{N:υ}{S:Ρ}{Q:List eU}(h:(N.Β.map (·.1)).Nodup):M1 g R d N S (Q,N,S):=⟨an _,h⟩
theorem M1.J1{g:Gh}{R:List Int}{d:Int}{N:υ}{S:Ρ}{Q:List eU}(h:(N.Β.map (·.1)).Nodup){c:Int}{b:List (Int×K6)}:M1 g R d N S (Q,{ N with μ:=c,Φ:=b },S):=⟨an _,h⟩
theorem M1.K7{g:Gh}{R:List Int}{d:Int}{N:υ}{S S' : Ρ}{Q:List eU}(h:(N.Β.map (·.1)).Nodup){A:Int}{p q:NF}(hp:ζ N.Β A=some p)(hk:dg S' + cl q.Z<=dg S+cl p.Z):M1 g R d N S (Q,{ N with Β:=cZ N.Β A q },S'):=by
 refine⟨?_,iD h⟩;have K:=rz (q:=q) h hp;have T:=JR (g:=g) (R:=R) (N:=N) (A:=A) (q:=q) (c:=N.U);show dg S' + F0 { N with Β:=cZ N.Β A q }+nP g R { N with Β:=cZ N.Β A q }+nR g R d N.sh<=dg S+F0 N+nP g R N+nR g R d N.sh;omega
theorem M1.none{g:Gh}{R:List Int}{d:Int}{N:υ}{S:Ρ}{Q:List eU}(h:(N.Β.map (·.1)).Nodup){A:Int}{st Ι:Int}(hp:ζ N.Β A=none):M1 g R d N S (Q,{ N with Β:=cZ N.Β A ⟨st,Ι,[]⟩ },S):=by
 refine⟨?_,iD h⟩;have K:=oQ (q:=⟨st,Ι,[]⟩) h hp;have h3:nP g R { N with Β:=cZ N.Β A ⟨st,Ι,[]⟩ }<=nP g R N:=JR (c:=N.U);show dg S+F0 { N with Β:=cZ N.Β A ⟨st,Ι,[]⟩ }+nP g R { N with Β:=cZ N.Β A ⟨st,Ι,[]⟩ }+nR g R d N.sh<=dg S+F0 N+nP g R N+nR g R d N.sh;grind [cl]
theorem nc{d A bI Ι E:Int}{o:hy}{S:Ρ}:dg (bV d A bI Ι E o S).2.2+dW (bV d A bI Ι E o S).2.1<=dg S+dW o:=by
 unfold bV;by_cases h0:o.state≠0
 .grind
 grind [dW,ny,gV]
theorem ru{f:hy->Ρ->List eU×hy×Ρ}(hf:∀o S,dg (f o S).2.2+dW (f o S).2.1<=dg S+dW o):∀(os:List hy) (S:Ρ),dg (xs f os S).2.2+cl (xs f os S).2.1<=dg S+cl os
 | [],S=>an _
 | o::os,S=>by
  have K:=hf o S;have T:=ru hf os (f o S).2.2;grind [cl,xs]
theorem tg{g:Gh}{R:List Int}{d Λ E:Int}{m:G3}{N:υ}{S:Ρ}(hR:∀A ls,g.Α A=some ls->A∈R)(hn:(N.Β.map (·.1)).Nodup){f2:Int}(hm:L5 g ⟨f2,d,m⟩):M1 g R d N S (be d Λ m E N S):=by
 unfold be;by_cases k1:m.Δ=1
 .rw[Χ k1];have hG:=hm.pr k1;unfold eN;cases hp:ζ N.Β m.A with
  | some p=>exact M1.same hn
  | none =>
   dsimp only;by_cases K:E6 S 2 E (dy (268435456+N.U) (B3 d 0 m.Z))=true
   .rw[Χ K];refine⟨?_,iD hn⟩;have hk:dg (L4 S 2 E (dy (268435456+N.U) (B3 d 0 m.Z)))=dg S+cl (B3 d 0 m.Z):=by rw[ny K,kL _ _ λo ho=>(iX ho).2.2]
    have T:=oQ (q:=⟨0,268435456+N.U,B3 d 0 m.Z⟩) hn hp;have h3:=Ma (q:=⟨0,268435456+N.U,B3 d 0 m.Z⟩) (c:=N.U+1) hG (hR _ _ hG) hp;have h4:=oS d 0 m.Z;show dg (L4 S 2 E (dy (268435456+N.U) (B3 d 0 m.Z)))+F0 { N with Β:=cZ N.Β m.A ⟨0,268435456+N.U,B3 d 0 m.Z⟩ }+nP g R { N with U:=N.U+1,Β:=cZ N.Β m.A ⟨0,268435456+N.U,B3 d 0 m.Z⟩ }+nR g R d N.sh<=dg S+F0 N+nP g R N+nR g R d N.sh;grind
   grind [M1.none]
 rw[Ν k1];by_cases k2:m.Δ=2
 .grind [em,M1.same,M1.J1]
 rw[Ν k2];by_cases k3:m.Δ=3
 .rw[Χ k3];unfold dt;cases hp:ζ N.Β m.A with
  | none=>exact M1.none hn hp
  | some p =>
   dsimp only;split
   .rw[iB];exact M1.K7 hn hp (ru (λo S=>nc) p.Z S)
   .exact M1.same hn
 rw[Ν k3];by_cases k4:m.Δ=4
 .grind [gc,υ.J1,M1.same,M1.J1]
 rw[Ν k4];by_cases k5:m.Δ=5
 .rw[Χ k5];obtain⟨l,K,T,h3,h4⟩:=hm.tr k5
  have a2:m.A∈R:=by
   unfold Gh.Υ at K;cases hG:g.Α m.A with
   | none=>grind
   | some ls=>exact hR _ _ hG
  unfold dU;by_cases hr:(m.A,m.ω)∈N.sh
  .rw[Χ hr];exact M1.same hn
  rw[Ν hr];split
  .rename_i B;by_cases M:E6 S 5 E (G7 m.Z[0]!.to m.Z[0]!.am m.Κ)=true
   .rw[Χ M];refine⟨?_,hn⟩;have e:m.Z[0]! = l:=by rw[T];rfl
    have hk:dg (L4 S 5 E (G7 m.Z[0]!.to m.Z[0]!.am m.Κ))=dg S+2*l.am.length:=by rw[ny M,kC B.2,e]
    have h5:=Gt (rv:=N.sh) K h3 a2 hr;show dg (L4 S 5 E (G7 m.Z[0]!.to m.Z[0]!.am m.Κ))+F0 N+nP g R N+nR g R d (N.sh++[(m.A,m.ω)])<=dg S+F0 N+nP g R N+nR g R d N.sh;grind
   .rw[Ν M];exact M1.same hn
  .exact M1.same hn
 rw[Ν k5];by_cases k6:m.Δ=6
 .rw[Χ k6];unfold O4 υ.K7;grind [M1.same,M1.K7,cl,eY,kH,dW]
 rw[Ν k6];exact M1.same hn
theorem pV{α:Type}{f:α->υ->Ρ->L8}{R:List Int}{d:Int}{P:Gh->α->Prop}(hP:∀g ew a,RH d g ew->P g a->P ew a)(hf:∀a g N S,Nz g->Ni g d N S->P g a->I5 g d (f a N S))(hq:∀a g N S,(∀A ls,g.Α A=some ls->A∈R)->Nz g->Ni g d N S->(N.Β.map (·.1)).Nodup->P g a->M1 g R d N S (f a N S)):∀(l:List α) (g:Gh) (N:υ) (S:Ρ),(∀A ls,g.Α A=some ls->A∈R)->Nz g->Ni g d N S->(N.Β.map (·.1)).Nodup->(∀a∈l,P g a)->M1 g R d N S (bS f l N S)
 | [],g,N,S,_,_,_,hn,_=>M1.same hn
 | a::l,g,N,S,hR,hg,h,hn,U=>by
  have p1:=hq a g N S hR hg h hn aj;obtain⟨g1,q1,q2,q3,_⟩:=hf a g N S hg h aj;have p2:=pV hP hf hq l g1 (f a N S).2.1 (f a N S).2.2 (λA ls e=>hR A ls (by rw[<-q1.Α];exact e)) q2 q3 p1.np aj;refine⟨?_,p2.np⟩;have K:=p2.le;rw[Uy q1.Α,Uy q1.Α] at K;exact aO K p1.le
def yL{R:List Int}{d E:Int}:∀(Μ:Nat) (m:eU) (g:Gh) (N:υ) (S:Ρ),(∀A ls,g.Α A=some ls->A∈R)->Nz g->Ni g d N S->(N.Β.map (·.1)).Nodup->L5 g m->M1 g R d N S (bJ d E Μ m N S)
 | 0,_,g,N,S,_,_,_,hn,_=>by
  show M1 g R d N S ([],N,S);exact M1.same hn
 | Μ+1,m,g,N,S,hR,hg,h,hn,hm=>by
  have e:bJ d E (Μ+1) m N S=if m.to≠d then([m],N,S) else bS (bJ d E Μ) (be d m.Λ m.ct E N S).1 (be d m.Λ m.ct E N S).2.1 (be d m.Λ m.ct E N S).2.2:=rfl;rw[e];by_cases ht:m.to≠d
  .rw[Χ ht];exact M1.same hn
  .rw[Ν ht];have ht:m.to=d:=Classical.byContradiction ht;have B:L5 g ⟨m.Λ,d,m.ct⟩:=by rw[<-ht];exact hm
   have p1:=tg (R:=R) (Λ:=m.Λ) (E:=E) (S:=S) hR hn B;obtain⟨g1,q1,q2,q3,q4⟩:=oT (Λ:=m.Λ) (E:=E) hg h B;have p2:=pV (f:=bJ d E Μ) (P:=L5) (R:=R) (λg ew y=>L5.ext g ew y) (λa g N S=>rA Μ a g N S) (λa g N S=>yL Μ a g N S) _ g1 _ _ (λA ls e=>hR A ls (by rw[<-q1.Α];exact e)) q2 q3 p1.np q4;have K:=p2.le;rw[Uy q1.Α,Uy q1.Α] at K;exact⟨aO K p1.le,p2.np⟩
def CY{g:Gh}{R:List Int}{d E:Int}{l:List eU}{N:υ}{S:Ρ}(hR:∀A ls,g.Α A=some ls->A∈R)(hg:Nz g)(h:Ni g d N S)(hn:(N.Β.map (·.1)).Nodup)(U:∀y∈l,L5 g y):M1 g R d N S (L9 d E l N S) :=
 pV (P:=L5) (R:=R) (λg ew y=>L5.ext g ew y) (λa g N S=>rA 7 a g N S) (λa g N S=>yL 7 a g N S) l g N S hR hg h hn U
def Ir{g:Gh}{R:List Int}{d G E:Int}{x:eU}{N:υ}{S:Ρ}(hR:∀A ls,g.Α A=some ls->A∈R)(hg:Nz g)(h:Ni g d N S)(hn:(N.Β.map (·.1)).Nodup)(O:L5 g x):M1 g R d N S (dO d G x E N S):=by
 unfold dO;by_cases hc:x.to=d/\(0<=x.Λ/\x.Λ<G)/\x.Λ≠d
 .rw[Χ hc];have B:L5 g ⟨x.Λ,d,x.ct⟩:=by rw[<-hc.1];exact O
  have p1:=tg (R:=R) (Λ:=x.Λ) (E:=E) (S:=S) hR hn B;obtain⟨g1,q1,q2,q3,q4⟩:=oT (Λ:=x.Λ) (E:=E) hg h B;have p2:=CY (R:=R) (E:=E) (λA ls e=>hR A ls (by rw[<-q1.Α];exact e)) q2 q3 p1.np q4;have K:=p2.le;rw[Uy q1.Α,Uy q1.Α] at K;exact⟨aO K p1.le,p2.np⟩
 .rw[Ν hc];exact M1.same hn
theorem Mz{g:Gh}{d E A:Int}{N:υ}{S:Ρ}(hg:Nz g)(h:Ni g d N S):I5 g d (Nh d E A N S)/\∀R:List Int,(∀A ls,g.Α A=some ls->A∈R)->(N.Β.map (·.1)).Nodup->M1 g R d N S (Nh d E A N S):=by
 unfold Nh;cases O:ζ N.Φ A with
 | none=>grind [I5.same,M1.same]
 | some x =>
  have hG:=h.bg A x O
  have e1:(cD d A x E).2.Z=x.Z:=by
   unfold cD;split
   .rfl
   split
   .rfl
   .rfl
  have B:∀y∈(cD d A x E).1,L5 g y:=by
   unfold cD;split
   .exact im (λq=>hD (show(3:Int)=1 from q) ae) (by show ¬(3:Int)=5;decide)
   split
   .exact im (λq=>hD (show(3:Int)=1 from q) ae) (by show ¬(3:Int)=5;decide)
   .exact im (λ_=>hG) aj
  have hN:=h.J1 (c:=N.μ) (A:=A) (x:=(cD d A x E).2) aj;dsimp only
  exact⟨Ab hg hN B,λR hR hn=>by
   have p:=CY (R:=R) (E:=E) hR hg hN hn B;exact⟨p.le,p.np⟩⟩
theorem LE{g:Gh}{R:List Int}{d E A:Int}{N:υ}{S:Ρ}(hR:∀A ls,g.Α A=some ls->A∈R)(hg:Nz g)(h:Ni g d N S)(hn:(N.Β.map (·.1)).Nodup):M1 g R d N S (Qi d E A N S):=by
 obtain⟨hU,hP⟩:=Mz (E:=E) (A:=A) hg h;have p1:=hP R hR hn;obtain⟨g1,q1,q2,q3,q4⟩:=hU
 have p2:M1 g R d (Nh d E A N S).2.1 (Nh d E A N S).2.2 (K8 d E A (Nh d E A N S).2.1 (Nh d E A N S).2.2):=by
  generalize Nh d E A N S=A9 at *;unfold K8;cases hp:ζ A9.2.1.Β A with
  | none=>exact M1.same p1.np
  | some p =>
   dsimp only;split
   .refine M1.K7 p1.np hp (ru (λo S=>?_) p.Z _);unfold B8;split
    .grind
    .exact nc
   .exact M1.same p1.np
 exact⟨aO p2.le p1.le,p2.np⟩
theorem Cc{g:Gh}{R:List Int}{d E:Int}{N:υ}{S:Ρ}(hR:∀A ls,g.Α A=some ls->A∈R)(hg:Nz g)(h:Ni g d N S)(hn:(N.Β.map (·.1)).Nodup):M1 g R d N S (dv d E N S) :=
 pV (P:=λ_ _=>True) aj (λa g N S K T _=>HN K T) (by grind [LE]) (ed N) g N S hR hg h hn aj
structure OU (G:Int) (b:Nat) (g:Gh) (R:List Int) (W:iK):Prop where
 cv:RI G g W
 hR:∀A ls,g.Α A=some ls->A∈R
 Rn:∀A∈R,∃ls,g.Α A=some ls
 pn:∀i:Int,0<=i/\i<G->pn g R i (W.nd i).1 (W.nd i).2<=b
def OU.send{G:Int}{b:Nat}{g:Gh}{R:List Int}{W:iK}(h:OU G b g R W)(U:(W.E7.length:Int)=G){d:Int}(hs:0<=d/\d<G){r:L8}(hr:I5 g d r)(hp:M1 g R d (W.nd d).1 (W.nd d).2 r):∃ew,ew.Α=g.Α/\OU G b ew R (W.send d r):=by
 obtain⟨ew,q1,q2⟩:=h.cv.send U hs hr;refine⟨ew,q1,q2,by rw[q1];exact h.hR,by rw[q1];exact h.Rn,λi hi=>?_⟩;have e:(W.send d r).nd i=if i=d then(r.2.1,r.2.2) else W.nd i:=yW (W:=W) U hs hi;rw[e,Uy q1];by_cases q:i=d
 .rw[Χ q,q];exact aO hp.le (h.pn d hs)
 .rw[Ν q];exact h.pn i hi
theorem F8.lower{G:Int}{c b b' ε ac:Nat}{W:iK}(h:F8 G c b ε ac W)(hb:∀i:Int,0<=i/\i<G->dg (W.nd i).2+F0 (W.nd i).1<=b'):F8 G c b' ε ac W:=by
 refine⟨h.Nw,h.len,λi hi=>?_,h.Q,h.ml,h.E,h.il⟩;have hN:=h.nd i hi;have U:=h.len;have q:=hb i aj;have e:W.nd (i:Int)=W.E7[i]!:=by unfold iK.nd;rw[show((i:Nat):Int).toNat=i by omega]
 rw[e] at q;exact⟨hN.a,q,hN.μ⟩
theorem uk(g:Gh)(R:List Int)(i:Int)(N:υ)(S:Ρ):dg S+F0 N<=pn g R i N S:=by unfold pn;omega
theorem Lo{G:Int}{c b ε ac:Nat}{g:Gh}{R:List Int}{W:iK}(h:F8 G c b ε ac W)(hC:OU G b g R W)(hb:b+24<=2000):F8 G c b (ε+3300) ac (NO G W)/\∃ew,ew.Α=g.Α/\OU G b ew R (NO G W):=by
 have hk:=wL h hb
 have M:∃ew,ew.Α=g.Α/\OU G b ew R (NO G W):=by
  unfold NO;cases hm:W.Q with
  | nil=>grind
  | cons m Q =>
   have O:=h.Q m aj;have B:=hC.cv.Q m aj;have hN:=h.at O.x.to;have hd:OU G b g R { W with Q:=Q }:=⟨hC.cv.drop rfl aj,hC.hR,hC.Rn,hC.pn⟩;dsimp only;rw[Χ O.x.to];exact hd.send h.len O.x.to (KA hC.cv.gh (hC.cv.nd m.to O.x.to) B) (Ir hC.hR hC.cv.gh (hC.cv.nd m.to O.x.to) hN.a.OP.np B)
 obtain⟨ew,e,q⟩:=M;exact⟨hk.lower λi hi=>aO (uk ew R i _ _) (q.pn i hi),ew,e,q⟩
def LC{G:Int}{c b ε ac:Nat}{g:Gh}{R:List Int}{W:iK}(h:F8 G c b ε ac W)(hC:OU G b g R W)(hb:b<=2000){k:Int}(hk:0<=k/\k<G):F8 G c b (ε+600000000) ac (PL W k)/\∃ew,ew.Α=g.Α/\OU G b ew R (PL W k) :=
 ⟨wP h hb hk,hC.send h.len hk (Fr hC.cv.gh (hC.cv.nd k hk)) (Cc hC.hR hC.cv.gh (hC.cv.nd k hk) (h.at hk).a.OP.np)⟩
def vG{G:Int}{c b ε ac:Nat}{g:Gh}{R:List Int}{W:iK}(h:F8 G c b ε ac W)(hC:OU G b g R W)(hb:b+24<=2000):∀k:Nat,F8 G c b (ε+3300*k) ac (Ox G W k)/\∃ew,ew.Α=g.Α/\OU G b ew R (Ox G W k)
 | 0=>⟨h,g,rfl,hC⟩
 | k+1=>by
  obtain⟨K,g1,e1,c1⟩:=vG h hC hb k;obtain⟨T,g2,e2,c2⟩:=Lo K c1 hb;exact⟨T.mono D D D D,g2,e2.trans e1,c2⟩
theorem rR{G:Int}{c b ε ac:Nat}{g:Gh}{R:List Int}{W:iK}(h:F8 G c b ε ac W)(hC:OU G b g R W)(hb:b<=2000):∀k:Nat,(k:Int)<=G->F8 G c b (ε+600000000*k) ac (Oj W k)/\∃ew,ew.Α=g.Α/\OU G b ew R (Oj W k)
 | 0,_=>⟨h,g,rfl,hC⟩
 | k+1,hk=>by
  obtain⟨K,g1,e1,c1⟩:=rR h hC hb k D;obtain⟨T,g2,e2,c2⟩:=LC K c1 hb (k:=(k:Int)) aj;exact⟨T.mono D D D D,g2,e2.trans e1,c2⟩
def nM{G:Int}{c b ε ac:Nat}{g:Gh}{R:List Int}{W:iK}(h:F8 G c b ε ac W)(hc:c<=63)(hC:OU G b g R W)(hb:b<=1900):mS G (ε+7300000000) ac W/\F8 G c b (ε+7300000000) ac (iT G W)/\∃ew,ew.Α=g.Α/\OU G b ew R (iT G W):=by
 have hr:=h.Nw;obtain⟨K,g1,e1,c1⟩:=rR h hC D G.toNat D;obtain⟨T,g2,e2,c2⟩:=vG K c1 D 400;refine⟨⟨λk hk=>((rR h hC D k hk).1).mono hc D D D,λk hk=>((vG K c1 D k).1).mono hc D D D⟩,T.mono D D D D,g2,e2.trans e1,c2⟩
def uc{G:Int}{c b ε ac:Nat}{g:Gh}{R:List Int}{W:iK}(h:F8 G c b ε ac W)(hc:c<=63)(hC:OU G b g R W)(hb:b<=1900):∀r:Nat,F8 G c b (ε+7300000000*r) ac (cP G W r)/\∃ew,ew.Α=g.Α/\OU G b ew R (cP G W r)
 | 0=>⟨h,g,rfl,hC⟩
 | r+1=>by
  obtain⟨K,g1,e1,c1⟩:=uc h hc hC hb r;obtain⟨_,T,g2,e2,c2⟩:=nM K hc c1 hb;exact⟨T.mono D D D D,g2,e2.trans e1,c2⟩
def rX{G:Int}{c b ε ac n:Nat}{g:Gh}{R:List Int}{W:iK}(h:F8 G c b ε ac W)(hc:c<=63)(hC:OU G b g R W)(hb:b<=1900):∀r,r<n->mS G (ε+7300000000*n) ac (cP G W r):=λr hr=>by
 obtain⟨K,g1,e1,c1⟩:=uc h hc hC hb r;obtain⟨q,_⟩:=nM K hc c1 hb;exact⟨λk hk=>(q.1 k hk).mono D D D D,λk hk=>(q.2 k hk).mono D D D D⟩
