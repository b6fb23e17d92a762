/- Lemmas. -/
import Derived.Test.YtlgpgjdggilkgaaGreatDoorEdbl
set_option linter.all false
namespace Go.Proofs.YtlgpgjdggilkgaaGreatDoor
section
open Go.V
def Re.of{g fJ : Gh}{d r:Int}{o:hD}(h:Re g d r o)(hG:fJ.Β=g.Β)(hX:fJ.X (r,o.ai)=g.X (r,o.ai)):Re fJ d r o :=
 ⟨(lf hG _).trans h.lg,h.d,λq=>hX.trans (h.x0 q),λq=>hX.trans (h.x1 q)⟩
theorem L4.of{g fJ : Gh}{y:fK}(h:L4 g y)(hG:fJ.Β=g.Β)(hm:∀k fl,g.X k=some fl->fJ.X k=some fl):L4 fJ y :=
 ⟨λq=>by rw[hG];exact h.pr q,λq=>by
  obtain⟨l,I,Q,h3,h4⟩:=h.tr q;grind [lf]⟩
theorem L4.none{g:Gh}{y:fK}(I:¬y.ct.Ζ=1)(h5:¬y.ct.Ζ=5):L4 g y:=⟨D,D⟩
structure Sf (g:Gh) (d r:Int) (rv:List (Int×Int)) (o:hD) (Δ:List fK×hD×Τ) (fJ : Gh):Prop where
 Β:fJ.Β=g.Β
 ne:∀k,k≠(r,o.ai)->fJ.X k=g.X k
 mono:∀k fl,g.X k=some fl->fJ.X k=some fl
 gh:Ng fJ
 ls:O1 fJ d rv Δ.2.2
 ix:Δ.2.1.ai=o.ai
 ow:Re fJ d r Δ.2.1
 O:∀y∈Δ.1,L4 fJ y
theorem Sf.same{g:Gh}{d r:Int}{rv:List (Int×Int)}{o o' : hD}{S S' : Τ}{O:List fK}(hg:Ng g)(h:O1 g d rv S')(ho:Re g d r o')(hi:o'.ai=o.ai)(hm:∀y∈O,L4 g y):Sf g d r rv o (O,o',S') g :=
 ⟨rfl,λ_ _=>rfl,λ_ _ q=>q,hg,h,hi,ho,hm⟩
def tX{g:Gh}{d r:Int}{o:hD}(T:g.Χ (r,o.ai)=some o.Χ)(hX:g.X (r,o.ai)=some o.Μ):L4 g (fI d r o) :=
 ⟨λq=>iJ (show(5:Int)=1 from q) ac,λ_=>⟨o.Χ,T,rfl,rfl,hX⟩⟩
theorem xF{g:Gh}{d r cN Κ B:Int}{rv:List (Int×Int)}{o:hD}{S:Τ}(h:O1 g d rv S)(hg:Ng g)(ho:Re g d r o):∃fJ,Sf g d r rv o (bY d r cN Κ B o S) fJ:=by
 unfold bY;by_cases h0:o.state≠0
 .rw[Ω h0];exact⟨g,Sf.same (S:=S) hg h ho rfl ah⟩
 rw[Ο h0];by_cases I:cN=1/\o.Χ.ts≠d
 .rw[Ω I];by_cases Q:E6 S 6 B (B5 Κ 0 o.Χ.am)=true
  .rw[Ω Q];have hX:=ho.x0 D;obtain⟨q1,q2⟩:=h.ZC hg ho.lg ho.d hX Q;refine⟨g.put (r,o.ai) (Nf S 6 B (B5 Κ 0 o.Χ.am)),⟨rfl,λk hk=>Gh.a8 _ hk,λk fl q=>?_,q1,q2,rfl,⟨ho.lg,ho.d,ah,λ_=>Gh.c7 _ _ _⟩,λy U=>?_⟩⟩
   .grind [Gh.a8]
   .rw[GO U];exact tX (o:={ o with state:=1,Μ:=Nf S 6 B (B5 Κ 0 o.Χ.am) }) ho.lg (Gh.c7 _ _ _)
  .rw[Ο Q];exact⟨g,Sf.same (S:=S) hg h ho rfl ah⟩
 rw[Ο I];generalize (if cN=2 then o.Χ.fr else o.Χ.to)=t;by_cases Q:E6 S 2 B (B5 Κ t o.Χ.am)=true
 .rw[Ω Q];exact⟨g,Sf.same (S:=S) hg (h.XH B _) ⟨ho.lg,ho.d,ah,ah⟩ rfl ah⟩
 .rw[Ο Q];exact⟨g,Sf.same (S:=S) hg h ho rfl ah⟩
def Da{g:Gh}{d r cN Κ B:Int}{rv:List (Int×Int)}{o:hD}{S:Τ}(h:O1 g d rv S)(hg:Ng g)(ho:Re g d r o):∃fJ,Sf g d r rv o (B9 d r cN Κ B o S) fJ:=by
 unfold B9;by_cases I:o.state=1
 .rw[Ω I];exact⟨g,Sf.same (S:=S) hg h ho rfl λy U=>by rw[GO U];exact tX ho.lg (ho.x1 I)⟩
 .rw[Ο I];exact xF h hg ho
structure XI (g:Gh) (d r:Int) (rv:List (Int×Int)) (os:List hD) (Δ:List fK×List hD×Τ) (fJ : Gh):Prop where
 Β:fJ.Β=g.Β
 ne:∀k,(k.1=r->k.2∉os.map (·.ai))->fJ.X k=g.X k
 mono:∀k fl,g.X k=some fl->fJ.X k=some fl
 gh:Ng fJ
 ls:O1 fJ d rv Δ.2.2
 ix:Δ.2.1.map (·.ai)=os.map (·.ai)
 ow:∀o∈Δ.2.1,Re fJ d r o
 O:∀y∈Δ.1,L4 fJ y
theorem Co{f:hD->Τ->List fK×hD×Τ}{d r:Int}{rv:List (Int×Int)}(hf:∀g S o,O1 g d rv S->Ng g->Re g d r o->∃fJ,Sf g d r rv o (f o S) fJ):∀(os:List hD) (g:Gh) (S:Τ),O1 g d rv S->Ng g->(∀o∈os,Re g d r o)->(os.map (·.ai)).Nodup->∃fJ,XI g d r rv os (B0 f os S) fJ
 | [],g,S,h,hg,_,_=>⟨g,rfl,λ_ _=>rfl,λ_ _ q=>q,hg,h,rfl,λo ho=>(by cases ho),λy U=>(by cases U)⟩
 | o::os,g,S,h,hg,ho,hn=>by
  rw[al,eD] at hn;obtain⟨g1,q⟩:=hf g S o h hg ah;have A:∀x∈os,Re g1 d r x:=λx M=>(ho x ah).of q.Β (q.ne _ ah);obtain⟨g2,p⟩:=Co hf os g1 (f o S).2.2 q.ls q.gh A hn.2;refine⟨g2,p.Β.trans q.Β,λk hk=>?_,λk fl e=>p.mono k fl (q.mono k fl e),p.gh,p.ls,?_,λx M=>?_,λy U=>?_⟩
  .rw[p.ne k ah];exact q.ne k ah
  .show List.map _ ((f o S).2.1::(B0 f os (f o S).2.2).2.1)=_;rw[al,al,q.ix,p.ix]
  .rcases L7 M with rfl|M
   .exact q.ow.of p.Β (p.ne _ λ_ m=>hn.1 (by rw[q.ix] at m;exact m))
   .exact p.ow x M
  .rcases J4 U with U|U
   .exact(q.O y U).of p.Β p.mono
   .exact p.O y U
theorem iC(d r cN Κ B:Int):∀(os:List hD) (S:Τ),cG d r cN Κ B os S=B0 (bY d r cN Κ B) os S
 | [],_=>rfl
 | o::os,S=>by
  simp only[cG,B0];rw[iC d r cN Κ B os]
structure M1 (g:Gh) (d:Int) (N:ω) (S:Τ):Prop where
 ls:O1 g d N.wk S
 bg:∀r x,ε N.Ψ r=some x->g.Β r=some x.Α
 pt:∀r p,ε N.Γ r=some p->(∀o∈p.Α,Re g d r o)/\(p.Α.map (·.ai)).Nodup
 has:∀k l,g.Χ k=some l->l.d=d->g.X k≠none->ε N.Γ k.1≠none
structure Rf (d:Int) (g fJ : Gh):Prop where
 Β:fJ.Β=g.Β
 mono:∀k fl,g.X k=some fl->fJ.X k=some fl
 Om:∀k l,g.Χ k=some l->l.d≠d->fJ.X k=g.X k
theorem Rf.refl(d:Int)(g:Gh):Rf d g g:=⟨rfl,λ_ _ q=>q,ah⟩
def Rf.trans{d:Int}{g g1 g2:Gh}(h:Rf d g g1)(k:Rf d g1 g2):Rf d g g2 :=
 ⟨k.Β.trans h.Β,λa b q=>k.mono a b (h.mono a b q),λa l q1 q2=>(k.Om a l ((lf h.Β a).trans q1) q2).trans (h.Om a l q1 q2)⟩
def I3(g:Gh)(d:Int)(Δ:L6):Prop:=∃fJ,Rf d g fJ/\Ng fJ/\M1 fJ d Δ.2.1 Δ.2.2/\∀y∈Δ.1,L4 fJ y
theorem I3.same{g:Gh}{d:Int}{O:List fK}{N:ω}{S:Τ}(hg:Ng g)(h:M1 g d N S)(hm:∀y∈O,L4 g y):I3 g d (O,N,S):=⟨g,Rf.refl d g,hg,h,hm⟩
theorem M1.J2{g:Gh}{d:Int}{N:ω}{S:Τ}(h:M1 g d N S){r:Int}{x:K4}(M:g.Β r=some x.Α){c:Int}:M1 g d { N with ν:=c,Ψ:=ez N.Ψ r x } S :=
 ⟨h.ls,λj y q=>by
  have q:ε (ez N.Ψ r x) j=some y:=q;rw[cF] at q;by_cases e:j=r
  .grind
  .rw[Ο e] at q;exact h.bg j y q,h.pt,h.has⟩
theorem M1.K5{g:Gh}{d:Int}{N:ω}{S S' : Τ}(h:M1 g d N S)(hS:O1 g d N.wk S'){r:Int}{p:Nl}(hp:(∀o∈p.Α,Re g d r o)/\(p.Α.map (·.ai)).Nodup){c:Int}:M1 g d { N with T:=c,Γ:=ez N.Γ r p } S' :=
 ⟨hS,h.bg,λj y q=>by
  have q:ε (ez N.Γ r p) j=some y:=q;rw[cF] at q;by_cases e:j=r
  .grind
  .rw[Ο e] at q;exact h.pt j y q,λk l q1 q2 q3=>by
  show ε (ez N.Γ r p) k.1≠none;rw[cF];by_cases e:k.1=r
  .grind
  .rw[Ο e];exact h.has k l q1 q2 q3⟩
theorem M1.run{g fJ : Gh}{d:Int}{N:ω}{S:Τ}(h:M1 g d N S){r:Int}{p:Nl}(hp:ε N.Γ r=some p){Δ:List fK×List hD×Τ}(hr:XI g d r N.wk p.Α Δ fJ){st:Int}:Rf d g fJ/\M1 fJ d { N with Γ:=ez N.Γ r ⟨st,p.Κ,Δ.2.1⟩ } Δ.2.2:=by
 obtain⟨p1,p2⟩:=h.pt r p hp;refine⟨⟨hr.Β,hr.mono,λk l q1 q2=>hr.ne k λe m=>?_⟩,⟨hr.ls,λj y q=>by rw[hr.Β];exact h.bg j y q,λj y q=>?_,λk l q1 q2 q3=>?_⟩⟩
 .obtain⟨o,ho,e2⟩:=H8 m;have q3:=(p1 o ho).lg;rw[show(r,o.ai)=k from Prod.ext e.symm e2,q1] at q3;rw[O3 q3] at q2;exact q2 (p1 o ho).d
 .have q:ε (ez N.Γ r ⟨st,p.Κ,Δ.2.1⟩) j=some y:=q;rw[cF] at q;by_cases e:j=r
  .rw[Ω e] at q;rw[<-O3 q,e];exact⟨hr.ow,by show(Δ.2.1.map (·.ai)).Nodup;rw[hr.ix];exact p2⟩
  .rw[Ο e] at q;obtain⟨r1,r2⟩:=h.pt j y q;exact⟨λo ho=>(r1 o ho).of hr.Β (hr.ne _ D),r2⟩
 .show ε (ez N.Γ r ⟨st,p.Κ,Δ.2.1⟩) k.1≠none;rw[cF];by_cases e:k.1=r
  .grind
  .rw[Ο e];rw[hr.ne k D] at q3;exact h.has k l ((lf hr.Β k).symm.trans q1) q2 q3
theorem iX{d:Int}:∀{ls:List x4} {k:Int} {o:hD},o∈B6 d k ls->(k<=o.ai/\ls[(o.ai - k).toNat]? = some o.Χ)/\o.Χ.d=d/\o.state=0
 | [],_,_,h=>by cases h
 | l::ls,k,o,h=>by
  unfold B6 at h
  have step:o∈B6 d (k+1) ls->(k<=o.ai/\(l::ls)[(o.ai - k).toNat]? = some o.Χ)/\o.Χ.d=d/\o.state=0:=λh=>by
   obtain⟨⟨q1,q2⟩,q3⟩:=iX h;refine⟨⟨D,?_⟩,q3⟩;rw[show(o.ai - k).toNat=(o.ai - (k+1)).toNat+1 by omega,List.getElem?_cons_succ];exact q2
  grind
def vq{d:Int}:∀(ls:List x4) (k:Int),((B6 d k ls).map (·.ai)).Nodup
 | [],_=>dp
 | l::ls,k=>by
  unfold B6;by_cases e:l.d=d
  .rw[Ω e,al];refine List.nodup_cons.2 ⟨λh=>?_,vq ls (k+1)⟩;obtain⟨o,ho,he⟩:=H8 h;have:=(iX ho).1.1
   have he:o.ai=k:=he;omega
  .rw[Ο e];exact vq ls (k+1)
theorem ip{g:Gh}{d:Int}{gs W:List Int}{ct:G4}(I:ct.Ζ=1->g.Β ct.r=some ct.Α)(h5:¬ct.Ζ=5):∀y∈ck d gs W ct,L4 g y:=λy U=>by
 unfold ck at U;obtain⟨a,_,rfl⟩:=H8 U;exact⟨I,ah⟩
theorem pS{g:Gh}{Ν to Ζ r ai:Int}{yes:Bool}(I:¬Ζ=1)(h5:¬Ζ=5):∀y∈[(⟨Ν,to,D4 Ζ r ai yes⟩:fK)],L4 g y:=λy U=>by
 rw[GO U];exact L4.none I h5
theorem Km{g:Gh}{d B:Int}{m:G4}{N:ω}{S:Τ}(hg:Ng g)(h:M1 g d N S)(hm:g.Β m.r=some m.Α):I3 g d (eM d m B N S):=by
 unfold eM;cases hp:ε N.Γ m.r with
 | some p=>grind [I3.same,pS]
 | none =>
  dsimp only;by_cases I:E6 S 2 B (dx (268435456+N.T) (B6 d 0 m.Α))=true
  .rw[Ω I];refine I3.same hg (h.K5 (h.ls.XH B _) ⟨λo ho=>?_,vq m.Α 0⟩) (pS ac ac);obtain⟨⟨q1,q2⟩,q3,q4⟩:=iX ho
   have T:g.Χ (m.r,o.ai)=some o.Χ:=by
    unfold Gh.Χ;rw[hm];dsimp only;rw[Ω q1,<-q2];congr 2;omega
   refine⟨T,q3,λ_=>?_,D⟩;cases hX:g.X (m.r,o.ai) with
   | none=>rfl
   | some fl=>exact iJ hp (h.has _ _ T q3 ah)
  .rw[Ο I];exact I3.same hg (h.K5 (c:=N.T) h.ls ah) (pS ac ac)
theorem JP{g:Gh}{d Ν B:Int}{m:G4}{N:ω}{S:Τ}(hg:Ng g)(h:M1 g d N S):I3 g d (eu d Ν m B N S):=by
 unfold eu;cases M:ε N.Ψ m.r with
 | none=>exact I3.same hg h ah
 | some x =>
  have hG:=h.bg m.r x M;dsimp only;split
  .exact I3.same hg h ah
  split
  .exact I3.same hg (h.J2 (c:=N.ν) (by exact hG)) (ip (λq=>iJ (show(3:Int)=1 from q) ac) (by show ¬(3:Int)=5;decide))
  split
  .exact I3.same hg (h.J2 (c:=N.ν) (by exact hG)) ah
  .exact I3.same hg (h.J2 (c:=N.ν) (by exact hG)) (ip (λq=>iJ (show(3:Int)=1 from q) ac) (by show ¬(3:Int)=5;decide))
theorem DA{g:Gh}{d r:Int}{N:ω}{S:Τ}(hg:Ng g)(h:M1 g d N S){p:Nl}(hp:ε N.Γ r=some p){f:hD->Τ->List fK×hD×Τ}(hf:∀g S o,O1 g d N.wk S->Ng g->Re g d r o->∃fJ,Sf g d r N.wk o (f o S) fJ)(st:Int){O:List fK}(A:∀g y,y∈O->L4 g y):I3 g d ((B0 f p.Α S).1++O,{ N with Γ:=ez N.Γ r ⟨st,p.Κ,(B0 f p.Α S).2.1⟩ },(B0 f p.Α S).2.2):=by
 obtain⟨p1,p2⟩:=h.pt r p hp;obtain⟨fJ,hr⟩:=Co hf p.Α g S h.ls hg p1 p2;obtain⟨q1,q2⟩:=h.run hp hr (st:=st);refine⟨fJ,q1,hr.gh,q2,λy U=>?_⟩;rcases J4 U with U|U
 .exact hr.O y U
 grind
theorem Hk{g:Gh}{d B:Int}{m:G4}{N:ω}{S:Τ}(hg:Ng g)(h:M1 g d N S):I3 g d (dq d m B N S):=by
 unfold dq;cases hp:ε N.Γ m.r with
 | none=>exact I3.same hg (h.K5 (c:=N.T) h.ls ah) (pS ac ac)
 | some p =>
  grind [iC,DA,xF,pS,I3.same]
theorem JV{g:Gh}{d Ν:Int}{m:G4}{N:ω}{S:Τ}(hg:Ng g)(h:M1 g d N S):I3 g d (gd Ν m N S):=by
 unfold gd ω.J2;cases M:ε N.Ψ m.r with
 | none=>exact I3.same hg h ah
 | some x =>
  dsimp only;exact I3.same hg (h.J2 (c:=N.ν) (by exact h.bg m.r x M)) ah
theorem LZ{g:Gh}{d:Int}{m:G4}{N:ω}{S:Τ}(hg:Ng g)(h:M1 g d N S):I3 g d (OI m N S):=by
 unfold OI ω.K5;cases hp:ε N.Γ m.r with
 | none=>exact I3.same hg h ah
 | some p =>
  obtain⟨p1,p2⟩:=h.pt m.r p hp;have A:∀o,(eY m.ai o).ai=o.ai:=λo=>by unfold eY;split<;>rfl
  dsimp only;refine I3.same hg (h.K5 (c:=N.T) h.ls ⟨λo ho=>?_,?_⟩) ah
  .obtain⟨a,ha,rfl⟩:=H8 ho;have q:=p1 a ha;unfold eY;split
   .exact⟨q.lg,q.d,ah,ah⟩
   .exact q
  grind
theorem HR{g:Gh}{d Ν B:Int}{m:G4}{N:ω}{S:Τ}(hg:Ng g)(h:M1 g d N S)(hm:∃l,g.Χ (m.r,m.ai)=some l/\m.Α=[l]/\l.ts=d/\g.X (m.r,m.ai)=some m.Μ):I3 g d (dS d Ν m B N S):=by
 obtain⟨l,I,Q,h3,h4⟩:=hm;unfold dS;by_cases hr:(m.r,m.ai)∈N.wk
 .grind [I3.same,pS]
 rw[Ο hr];split
 .by_cases A:E6 S 5 B (G7 m.Α[0]!.to m.Α[0]!.am m.Μ)=true
  .rw[Ω A];have e:m.Α[0]! = l:=by rw[Q];rfl
   rw[e] at A ⊢;exact I3.same hg ⟨h.ls.ZD I h3 h4 hr A,h.bg,h.pt,h.has⟩ (pS ac ac)
  grind [I3.same]
 grind [I3.same]
theorem oN{g:Gh}{d Ν B:Int}{m:G4}{N:ω}{S:Τ}(hg:Ng g)(h:M1 g d N S){f2:Int}(hm:L4 g ⟨f2,d,m⟩):I3 g d (aX d Ν m B N S):=by
 unfold aX;by_cases k1:m.Ζ=1
 .rw[Ω k1];exact Km hg h (hm.pr k1)
 rw[Ο k1];by_cases k2:m.Ζ=2
 .rw[Ω k2];exact JP hg h
 rw[Ο k2];by_cases k3:m.Ζ=3
 .rw[Ω k3];exact Hk hg h
 rw[Ο k3];by_cases k4:m.Ζ=4
 .rw[Ω k4];exact JV hg h
 rw[Ο k4];by_cases k5:m.Ζ=5
 .rw[Ω k5];exact HR hg h (hm.tr k5)
 grind [LZ,I3.same]
theorem rL{α:Type}{f:α->ω->Τ->L6}{d:Int}{P:Gh->α->Prop}(hP:∀g fJ a,Rf d g fJ->P g a->P fJ a)(hf:∀a g N S,Ng g->M1 g d N S->P g a->I3 g d (f a N S)):∀(l:List α) (g:Gh) (N:ω) (S:Τ),Ng g->M1 g d N S->(∀a∈l,P g a)->I3 g d (bT f l N S)
 | [],g,N,S,hg,h,_=>I3.same hg h ah
 | a::l,g,N,S,hg,h,T=>by
  obtain⟨g1,q1,q2,q3,q4⟩:=hf a g N S hg h ah;obtain⟨g2,p1,p2,p3,p4⟩:=rL hP hf l g1 (f a N S).2.1 (f a N S).2.2 q2 q3 ah;refine⟨g2,q1.trans p1,p2,p3,λy U=>?_⟩;rcases J4 U with U|U
  .exact(q4 y U).of p1.Β p1.mono
  grind
def L4.ext{d:Int}(g fJ : Gh)(y:fK)(h:Rf d g fJ)(q:L4 g y):L4 fJ y:=q.of h.Β h.mono
theorem rB{d B:Int}:∀(Ξ:Nat) (m:fK) (g:Gh) (N:ω) (S:Τ),Ng g->M1 g d N S->L4 g m->I3 g d (bH d B Ξ m N S)
 | 0,_,g,N,S,hg,h,_=>by
  show I3 g d ([],N,S);exact I3.same hg h ah
 | Ξ+1,m,g,N,S,hg,h,hm=>by
  have e:bH d B (Ξ+1) m N S=if m.to≠d then([m],N,S) else bT (bH d B Ξ) (aX d m.Ν m.ct B N S).1 (aX d m.Ν m.ct B N S).2.1 (aX d m.Ν m.ct B N S).2.2:=rfl;rw[e];by_cases ht:m.to≠d
  .rw[Ω ht];exact I3.same hg h λy U=>by rw[GO U];exact hm
  .rw[Ο ht];have ht:m.to=d:=Classical.byContradiction ht;obtain⟨g1,q1,q2,q3,q4⟩:=oN (Ν:=m.Ν) (B:=B) hg h (f2:=m.Ν) (m:=m.ct) (by rw[<-ht];exact hm);obtain⟨g2,p1,p2,p3,p4⟩:=rL (P:=L4) (λg fJ y=>L4.ext g fJ y) (λa g N S=>rB Ξ a g N S) _ g1 _ _ q2 q3 q4;exact⟨g2,q1.trans p1,p2,p3,p4⟩
def zZ{g:Gh}{d B:Int}{l:List fK}{N:ω}{S:Τ}(hg:Ng g)(h:M1 g d N S)(T:∀y∈l,L4 g y):I3 g d (K6 d B l N S) :=
 rL (P:=L4) (λg fJ y=>L4.ext g fJ y) (λa g N S=>rB 7 a g N S) l g N S hg h T
def I3.then{g:Gh}{d:Int}{Δ r2:L6}(h:I3 g d Δ)(hk:∀fJ,Ng fJ->M1 fJ d Δ.2.1 Δ.2.2->(∀y∈Δ.1,L4 fJ y)->I3 fJ d r2):I3 g d r2:=by
 obtain⟨g1,q1,q2,q3,q4⟩:=h;obtain⟨g2,p1,p2,p3,p4⟩:=hk g1 q2 q3 q4;exact⟨g2,q1.trans p1,p2,p3,p4⟩
theorem Kj{g:Gh}{d F B:Int}{x:fK}{N:ω}{S:Τ}(hg:Ng g)(h:M1 g d N S)(M:L4 g x):I3 g d (dM d F x B N S):=by
 unfold dM;by_cases hc:x.to=d/\(0<=x.Ν/\x.Ν<F)/\x.Ν≠d
 .rw[Ω hc];exact(oN (Ν:=x.Ν) (B:=B) hg h (f2:=x.Ν) (m:=x.ct) (by rw[<-hc.1];exact M)).then λfJ a b c=>zZ a b c
 grind [I3.same]
theorem HC{g:Gh}{d B r:Int}{N:ω}{S:Τ}(hg:Ng g)(h:M1 g d N S):I3 g d (PV d B r N S):=by
 have hU:I3 g d (MX d B r N S):=by
  unfold MX;cases M:ε N.Ψ r with
  | none=>exact I3.same hg h ah
  | some x =>
   have hG:=h.bg r x M
   have e1:(cD d r x B).2.Α=x.Α:=by
    unfold cD;split
    .rfl
    split
    .rfl
    .rfl
   dsimp only;refine zZ hg (h.J2 (c:=N.ν) ah) ?_;unfold cD;split
   .exact ip (λq=>iJ (show(3:Int)=1 from q) ac) (by show ¬(3:Int)=5;decide)
   split
   .exact ip (λq=>iJ (show(3:Int)=1 from q) ac) (by show ¬(3:Int)=5;decide)
   .exact ip (λ_=>hG) ah
 obtain⟨g1,q1,q2,q3,q4⟩:=hU
 have hP:I3 g1 d (K7 d B r (MX d B r N S).2.1 (MX d B r N S).2.2):=by
  generalize MX d B r N S=B3 at *;unfold K7;cases hp:ε B3.2.1.Γ r with
  | none=>exact I3.same q2 q3 ah
  | some p =>
   dsimp only;split
   .have q:=DA q2 q3 hp (f:=B9 d r p.state p.Κ B) (λg S o=>Da) p.state (O:=[]) ah;grind
   grind [I3.same]
 obtain⟨g2,p1,p2,p3,p4⟩:=hP;refine⟨g2,q1.trans p1,p2,p3,λy U=>?_⟩;rcases J4 U with U|U
 .exact(q4 y U).of p1.Β p1.mono
 grind
theorem Fm{g:Gh}{d B:Int}{N:ω}{S:Τ}(hg:Ng g)(h:M1 g d N S):I3 g d (cU d B N S) :=
 rL (P:=λ_ _=>True) ah (λa g N S I Q _=>HC I Q) (dZ N) g N S hg h ah
theorem M1.ext{g fJ : Gh}{i d:Int}{N:ω}{S:Τ}(h:M1 g i N S)(M:Rf d g fJ)(hi:i≠d):M1 fJ i N S:=by
 have hX:∀k l,fJ.Χ k=some l->l.d=i->fJ.X k=g.X k:=λk l q e=>M.Om k l ((lf M.Β k).symm.trans q) D;have hL:∀k,fJ.Χ k=g.Χ k:=lf M.Β;refine⟨⟨h.ls.J1,λk l fl q1 q2 q3=>?_,h.ls.nd,λk hk=>?_,?_⟩,λr x q=>by rw[M.Β];exact h.bg r x q,λr p q=>?_,λk l q1 q2 q3=>?_⟩
 .rw[hX k l q1 q2] at q3;exact h.ls.exp k l fl ah q2 q3
 .obtain⟨l,fl,q1,q2,q3⟩:=h.ls.rc k hk;exact⟨l,fl,(hL k).trans q1,q2,M.mono k fl q3⟩
 .rw[h.ls.imp];exact(h.ls.D3 M.Β M.mono).symm
 .obtain⟨p1,p2⟩:=h.pt r p q;exact⟨λo ho=>(p1 o ho).of M.Β (hX _ o.Χ ((hL _).trans (p1 o ho).lg) (p1 o ho).d),p2⟩
 .rw[hX k l q1 q2] at q3;exact h.has k l ah q2 q3
structure Rg (F:Int) (g:Gh) (W:jA):Prop where
 gh:Ng g
 nd:∀i:Int,0<=i/\i<F->M1 g i (W.nd i).1 (W.nd i).2
 O:∀y∈W.O,L4 g y
 G:∀k fl l,g.X k=some fl->g.Χ k=some l->0<=l.d/\l.d<F
def RS(F:Int)(Β:Int->Option (List x4))(W:jA):Prop:=∀r ls,Β r=some ls->∃i c:Int,((0<=i/\i<F)/\r=i*4294967296+c)/\0<=c/\c<(W.nd i).1.ν
theorem ux{W:jA}{d i:Int}{x:ω×Τ}{F:Int}(T:(W.D8.length:Int)=F)(hs:0<=d/\d<F)(hi:0<=i/\i<F):({ W with D8:=W.D8.set d.toNat x }:jA).nd i=if i=d then x else W.nd i:=by
 grind [jA.nd]
theorem Rg.put{F:Int}{g fJ : Gh}{W:jA}(h:Rg F g W)(T:(W.D8.length:Int)=F){d:Int}(hs:0<=d/\d<F){N:ω}{S:Τ}(M:Rf d g fJ)(hg:Ng fJ)(hN:M1 fJ d N S){O:List fK}(hm:∀y∈O,L4 fJ y):Rg F fJ { W with D8:=W.D8.set d.toNat (N,S),O:=W.O++O }:=by
 refine⟨hg,λi hi=>?_,λy U=>?_,λk fl l q1 q2=>?_⟩
 .have e:({ W with D8:=W.D8.set d.toNat (N,S),O:=W.O++O }:jA).nd i=if i=d then(N,S) else W.nd i:=ux (W:=W) T hs hi;rw[e];by_cases q:i=d
  .grind
  .rw[Ο q];exact(h.nd i hi).ext M q
 .rcases J4 U with U|U
  .exact L4.ext g fJ y M (h.O y U)
  grind
 .by_cases e:l.d=d
  .omega
  .have q3:=(lf M.Β k).symm.trans q2;rw[M.Om k l q3 e] at q1;exact h.G k fl l q1 q3
def Rg.send{F:Int}{g:Gh}{W:jA}(h:Rg F g W)(T:(W.D8.length:Int)=F){d:Int}(hs:0<=d/\d<F){Δ:L6}(hr:I3 g d Δ):∃fJ,fJ.Β=g.Β/\Rg F fJ (W.send d Δ):=by
 obtain⟨fJ,q1,q2,q3,q4⟩:=hr;exact⟨fJ,q1.Β,h.put T hs q1 q2 q3 q4⟩
theorem RS.put{F:Int}{Β:Int->Option (List x4)}{W W' : jA}(h:RS F Β W)(T:(W.D8.length:Int)=F){d:Int}(hs:0<=d/\d<F){x:ω×Τ}(hc:(W.nd d).1.ν<=x.1.ν)(hW:W'.D8=W.D8.set d.toNat x):RS F Β W':=λr ls q=>by
 obtain⟨i,c,⟨q1,q2⟩,q3,q4⟩:=h r ls q;refine⟨i,c,⟨q1,q2⟩,q3,?_⟩;grind [jA.nd]
def Gh.G5(g:Gh)(r:Int)(ls:List x4):Gh:={ g with Β:=λj=>if j=r then some ls else g.Β j }
theorem kH{g:Gh}{r:Int}{ls:List x4}(h:g.Β r=none){k:Int×Int}{l:x4}(T:g.Χ k=some l):(g.G5 r ls).Χ k=some l:=by
 unfold Gh.Χ at T ⊢;have e:(g.G5 r ls).Β k.1=if k.1=r then some ls else g.Β k.1:=rfl;grind
theorem ry{g:Gh}{r j:Int}{ls A : List x4}(h:g.Β r=none)(T:g.Β j=some A):(g.G5 r ls).Β j=some A:=by
 have e:(g.G5 r ls).Β j=if j=r then some ls else g.Β j:=rfl;grind
theorem Rg.G5{F:Int}{g:Gh}{W:jA}(h:Rg F g W){r:Int}(ls:List x4)(A:g.Β r=none):Rg F (g.G5 r ls) W:=by
 have back:∀k fl l,g.X k=some fl->(g.G5 r ls).Χ k=some l->g.Χ k=some l:=λk fl l q1 q2=>by
  obtain⟨l',p,_⟩:=h.gh.xl k fl q1;grind [kH]
 refine⟨⟨λk fl q=>?_,h.gh.Wz⟩,λi hi=>?_,λy U=>?_,λk fl l q1 q2=>h.G k fl l q1 (back k fl l q1 q2)⟩
 .obtain⟨l,p1,p2⟩:=h.gh.xl k fl q;exact⟨l,kH A p1,p2⟩
 .have hN:=h.nd i hi;refine⟨⟨hN.ls.J1,λk l fl q1 q2 q3=>hN.ls.exp k l fl (back k fl l q3 q1) q2 q3,hN.ls.nd,λk hk=>?_,?_⟩,λj x q=>ry A (hN.bg j x q),λj p q=>?_,λk l q1 q2 q3=>?_⟩
  .obtain⟨l,fl,q1,q2,q3⟩:=hN.ls.rc k hk;exact⟨l,fl,kH A q1,q2,q3⟩
  .rw[hN.ls.imp];refine nx λk hk=>?_;obtain⟨l,fl,q1,q2,q3⟩:=hN.ls.rc k hk;rw[jV q1 q3,jV (g:=g.G5 r ls) (kH A q1) q3]
  .obtain⟨p1,p2⟩:=hN.pt j p q;exact⟨λo ho=>⟨kH A (p1 o ho).lg,(p1 o ho).d,(p1 o ho).x0,(p1 o ho).x1⟩,p2⟩
  .cases hX:g.X k with
   | none=>exact iJ hX q3
   | some fl=>exact hN.has k l ah q2 ah
 .have hm:=h.O y U;refine⟨λq=>ry A (hm.pr q),λq=>?_⟩;obtain⟨l,q1,q2⟩:=hm.tr q;exact⟨l,kH A q1,q2⟩
def Rg.drop{F:Int}{g:Gh}{W:jA}(h:Rg F g W){W' : jA}(hn:W'.D8=W.D8)(hm:∀y∈W'.O,y∈W.O):Rg F g W' :=
 ⟨h.gh,λi hi=>by
  have e:W'.nd i=W.nd i:=by unfold jA.nd;rw[hn]
  rw[e];exact h.nd i hi,λy U=>h.O y (hm y U),h.G⟩
theorem RS.same{F:Int}{Β:Int->Option (List x4)}{W W' : jA}(h:RS F Β W)(hn:W'.D8=W.D8):RS F Β W':=λr ls q=>by
 obtain⟨i,c,q1,q2,q3⟩:=h r ls q;have e:W'.nd i=W.nd i:=by unfold jA.nd;rw[hn]
 exact⟨i,c,q1,q2,ah⟩
def XJ(F:Int)(W:jA):Prop:=∃g,Rg F g W/\RS F g.Β W
def WA(l:List (ω×Τ)):π:=l.flatMap λp=>dm p.2.Μ
def WB(l:List (ω×Τ)):π:=l.flatMap λp=>Qs p.2.Μ
structure CvL (l:List (ω×Τ)):Prop where
 ac8:ir (WA l)
 ac9:L5 (WA l)
 vo:ir (WB l)
 ao:L5 (WB l)
 wi:kC (WA l) (WB l)
 iL:∀p∈l,∀x,p.2.iL x=RC x p.2.Μ
 a1:∀p∈l,∀f∈p.2.Μ,0<=f.a1/\f.a1<4
 fk:∀p∈l,p.2.Μ.length<=ey p.2
 fn:∀p∈l,∀f∈p.2.Μ,1<=f.n/\f.n<=1099511627776
def GX{d:Int}:∀{ss:List D7} {S:Τ},SF d S->dm S.Μ=[]->(∀s∈ss,s.Ζ=0)->SF d (ss.foldl bN S)/\dm (ss.foldl bN S).Μ=[]
 | [],S,h,hi,_=>⟨h,hi⟩
 | s::ss,S,h,hi,hk=>by
  have k0:=hk s au;obtain⟨q1,_,q3,_⟩:=wy (s:=s) h (by rw[k0];decide) (by rw[k0];decide) (by rw[k0];decide);rw[List.foldl_cons];exact GX q1 (q3.trans hi) λx M=>hk x (az _ M)
def LP(i:Int):SF i (L1 i I4):=⟨rfl,rfl,⟨ax _,aD _⟩,aD _,λ_=>rfl,λf hf=>iJ hf aH⟩
def U1.WC{l:List Int}{i:Nat}{s:K2}(h:U1 l i s):M1 ⟨λ_=>none,λ_=>none⟩ i s.n.m s.S:=by
 obtain⟨ss,I,Q⟩:=h.sp.run;obtain⟨q1,q2⟩:=GX (LP (i:Int)) rfl λs hs=>(I s hs).1;rw[<-Q] at q1 q2;rw[h.n];exact⟨⟨q1,λk l fl _ _ q=>iJ q (λe=>by cases e),dp,λk hk=>iJ hk aH,q2⟩,λr x q=>iJ q (λe=>by cases e),λr p q=>iJ q (λe=>by cases e),λk l _ _ q=>iJ rfl q⟩
def Se.cv{n:Int}{l:List Int}{W:F6}(h:Se n l W):XJ n W.m:=by
 have T:=h.len;refine⟨⟨λ_=>none,λ_=>none⟩,⟨⟨λk fl q=>iJ q (λe=>by cases e),λk k' a b q=>iJ q (λe=>by cases e)⟩,λi hi=>?_,λy U=>?_,λk fl l q=>iJ q (λe=>by cases e)⟩,λr ls q=>iJ q (λe=>by cases e)⟩
 .have A:i.toNat<W.cO.length:=D;have e:W.m.nd i=W.cO[i.toNat]!.m:=eZ (f:=K2.m) A;have q:=(h.sd i.toNat A).WC;rw[show((i.toNat:Nat):Int)=i by omega] at q;rw[e];exact q
 .have U:y∈W.x5.map (·.m):=U;rw[h.O] at U;cases U
attribute [local irreducible] Β Y GP δ vi GF GE Z Ef C0 E CB GB V.Enters bH K6
end
section
open Go.V
def Ly{F:Int}{cO:List K2}{i:Nat}(h:i<cO.length){s:K2}(hs:cO[i]! = s){L:Ι}:E (fh s.nb s.lb s.d F s.n (aT s.lb s.S::h2 (MN F) (cO.eraseIdx i)::L)) (h2 (MN F) cO::L):=by
 have q:=XA (F:=F) h (s:=s) s.n s.S (L:=L)
 have e:cO.set i { s with n:=s.n,S:=s.S }=cO:=by
  subst hs;rw[E7 h];exact eC h
 rw[e] at q;exact q
attribute [local irreducible] Β Y GP δ vi GF GE Z Ef C0 E CB GB V.Enters bH K6
end
section
open Go.V
theorem kE{α:Type}{f f' : α->Nat}:∀{l:List α},(∀x∈l,f' x<=f x)->(l.map f').sum<=(l.map f).sum
 | [],_=>ax _
 | a::l,h=>by
  have:=kE λx M=>h x (az _ M)
  grind
theorem lU{α:Type}{f f' : α->Nat}{Ξ:Nat}{a:α}:∀{l:List α},(∀x∈l,f' x<=f x)->a∈l->f' a+Ξ<=f a->(l.map f').sum+Ξ<=(l.map f).sum
 | b::l,h,hm,hd=>by
  rw[al,al,aR,aR];have I:=h b ah;have Q:=kE λx M=>h x (az _ M);rcases L7 hm with rfl|hm
  .omega
  .have:=lU ah hm hd
   omega
def cV(g:Gh)(r:Int):List x4:=(g.Β r).getD []
def nP(g:Gh)(R:List Int)(N:ω):Nat:=(R.map λr=>if(ε N.Γ r).isNone=true then 2*Nu (cV g r) else 0).sum
def T4(ls:List x4)(i r:Int)(rv:List (Int×Int))(j:Nat):Nat:=if ls[j]!.ts=i/\¬(r,(j:Int))∈rv then 2*ls[j]!.am.length else 0
def WE(ls:List x4)(i r:Int)(rv:List (Int×Int)):Nat:=((List.range ls.length).map (T4 ls i r rv)).sum
def nR(g:Gh)(R:List Int)(i:Int)(rv:List (Int×Int)):Nat:=(R.map λr=>WE (cV g r) i r rv).sum
def pn(g:Gh)(R:List Int)(i:Int)(N:ω)(S:Τ):Nat:=ey S+F0 N+nP g R N+nR g R i N.wk
def T5{g fJ : Gh}(h:fJ.Β=g.Β)(R:List Int)(i:Int)(N:ω)(S:Τ):pn fJ R i N S=pn g R i N S:=by
 unfold pn nP nR cV;rw[h]
structure MO (g:Gh) (R:List Int) (d:Int) (N:ω) (S:Τ) (Δ:L6):Prop where
 le:pn g R d Δ.2.1 Δ.2.2<=pn g R d N S
 np:(Δ.2.1.Γ.map (·.1)).Nodup
theorem JD{g:Gh}{R:List Int}{N:ω}{r:Int}{q:Nl}{c:Int}:nP g R { N with T:=c,Γ:=ez N.Γ r q }<=nP g R N:=by
 unfold nP;refine kE λx _=>?_;grind [cF]
theorem LK{g:Gh}{R:List Int}{N:ω}{r:Int}{q:Nl}{c:Int}{ls:List x4}(hG:g.Β r=some ls)(A:r∈R)(hp:ε N.Γ r=none):nP g R { N with T:=c,Γ:=ez N.Γ r q }+2*Nu ls<=nP g R N:=by
 unfold nP;refine lU (a:=r) (λx _=>?_) A ?_
 .grind [cF]
 grind [cF,cV]
theorem Gn{g:Gh}{R:List Int}{i:Int}{rv:List (Int×Int)}{k:Int×Int}{l:x4}(T:g.Χ k=some l)(hi:l.ts=i)(A:k.1∈R)(hk:k∉rv):nR g R i (rv++[k])+2*l.am.length<=nR g R i rv:=by
 unfold Gh.Χ at T;cases hG:g.Β k.1 with
 | none=>grind
 | some ls =>
  rw[hG] at T;dsimp only at T;by_cases h0:0<=k.2
  case neg=>grind
  rw[Ω h0] at T;obtain⟨hj,he⟩:=List.getElem?_eq_some_iff.1 T;have J:∀r j,T4 (cV g r) i r (rv++[k]) j<=T4 (cV g r) i r rv j:=by grind [T4]
  unfold nR;refine lU (a:=k.1) (λr _=>kE ah) A ?_;have e1:cV g k.1=ls:=by unfold cV;rw[hG];rfl
  unfold WE;refine lU (a:=k.2.toNat) ah ah ?_;grind [T4]
theorem MO.same{g:Gh}{R:List Int}{d:Int}{N:ω}{S:Τ}{O:List fK}(h:(N.Γ.map (·.1)).Nodup):MO g R d N S (O,N,S):=⟨ax _,h⟩
theorem MO.J2{g:Gh}{R:List Int}{d:Int}{N:ω}{S:Τ}{O:List fK}(h:(N.Γ.map (·.1)).Nodup){c:Int}{b:List (Int×K4)}:MO g R d N S (O,{ N with ν:=c,Ψ:=b },S):=⟨ax _,h⟩
theorem MO.K5{g:Gh}{R:List Int}{d:Int}{N:ω}{S S' : Τ}{O:List fK}(h:(N.Γ.map (·.1)).Nodup){r:Int}{p q:Nl}(hp:ε N.Γ r=some p)(hk:ey S' + cl q.Α<=ey S+cl p.Α):MO g R d N S (O,{ N with Γ:=ez N.Γ r q },S'):=by
 refine⟨?_,iE h⟩;have I:=rA (q:=q) h hp;have Q:=JD (g:=g) (R:=R) (N:=N) (r:=r) (q:=q) (c:=N.T);show ey S' + F0 { N with Γ:=ez N.Γ r q }+nP g R { N with Γ:=ez N.Γ r q }+nR g R d N.wk<=ey S+F0 N+nP g R N+nR g R d N.wk;omega
theorem MO.none{g:Gh}{R:List Int}{d:Int}{N:ω}{S:Τ}{O:List fK}(h:(N.Γ.map (·.1)).Nodup){r:Int}{st Κ:Int}(hp:ε N.Γ r=none):MO g R d N S (O,{ N with Γ:=ez N.Γ r ⟨st,Κ,[]⟩ },S):=by
 refine⟨?_,iE h⟩;have I:=oK (q:=⟨st,Κ,[]⟩) h hp;have h3:nP g R { N with Γ:=ez N.Γ r ⟨st,Κ,[]⟩ }<=nP g R N:=JD (c:=N.T);show ey S+F0 { N with Γ:=ez N.Γ r ⟨st,Κ,[]⟩ }+nP g R { N with Γ:=ez N.Γ r ⟨st,Κ,[]⟩ }+nR g R d N.wk<=ey S+F0 N+nP g R N+nR g R d N.wk;grind [cl]
theorem mW{d r cN Κ B:Int}{o:hD}{S:Τ}:ey (bY d r cN Κ B o S).2.2+dU (bY d r cN Κ B o S).2.1<=ey S+dU o:=by
 unfold bY;by_cases h0:o.state≠0
 .grind
 grind [dU,nv,gX]
theorem rx{f:hD->Τ->List fK×hD×Τ}(hf:∀o S,ey (f o S).2.2+dU (f o S).2.1<=ey S+dU o):∀(os:List hD) (S:Τ),ey (B0 f os S).2.2+cl (B0 f os S).2.1<=ey S+cl os
 | [],S=>ax _
 | o::os,S=>by
  have I:=hf o S;have Q:=rx hf os (f o S).2.2;grind [cl,B0]
theorem tg{g:Gh}{R:List Int}{d Ν B:Int}{m:G4}{N:ω}{S:Τ}(hR:∀r ls,g.Β r=some ls->r∈R)(hn:(N.Γ.map (·.1)).Nodup){f2:Int}(hm:L4 g ⟨f2,d,m⟩):MO g R d N S (aX d Ν m B N S):=by
 unfold aX;by_cases k1:m.Ζ=1
 .rw[Ω k1];have hG:=hm.pr k1;unfold eM;cases hp:ε N.Γ m.r with
  | some p=>exact MO.same hn
  | none =>
   dsimp only;by_cases I:E6 S 2 B (dx (268435456+N.T) (B6 d 0 m.Α))=true
   .rw[Ω I];refine⟨?_,iE hn⟩;have hk:ey (L3 S 2 B (dx (268435456+N.T) (B6 d 0 m.Α)))=ey S+cl (B6 d 0 m.Α):=by rw[nv I,kJ _ _ λo ho=>(iX ho).2.2]
    have Q:=oK (q:=⟨0,268435456+N.T,B6 d 0 m.Α⟩) hn hp;have h3:=LK (q:=⟨0,268435456+N.T,B6 d 0 m.Α⟩) (c:=N.T+1) hG (hR _ _ hG) hp;have h4:=oM d 0 m.Α;show ey (L3 S 2 B (dx (268435456+N.T) (B6 d 0 m.Α)))+F0 { N with Γ:=ez N.Γ m.r ⟨0,268435456+N.T,B6 d 0 m.Α⟩ }+nP g R { N with T:=N.T+1,Γ:=ez N.Γ m.r ⟨0,268435456+N.T,B6 d 0 m.Α⟩ }+nR g R d N.wk<=ey S+F0 N+nP g R N+nR g R d N.wk;grind
   grind [MO.none]
 rw[Ο k1];by_cases k2:m.Ζ=2
 .grind [eu,MO.same,MO.J2]
 rw[Ο k2];by_cases k3:m.Ζ=3
 .rw[Ω k3];unfold dq;cases hp:ε N.Γ m.r with
  | none=>exact MO.none hn hp
  | some p =>
   dsimp only;split
   .rw[iC];exact MO.K5 hn hp (rx (λo S=>mW) p.Α S)
   .exact MO.same hn
 rw[Ο k3];by_cases k4:m.Ζ=4
 .grind [gd,ω.J2,MO.same,MO.J2]
 rw[Ο k4];by_cases k5:m.Ζ=5
 .rw[Ω k5];obtain⟨l,I,Q,h3,h4⟩:=hm.tr k5
  have a2:m.r∈R:=by
   unfold Gh.Χ at I;cases hG:g.Β m.r with
   | none=>grind
   | some ls=>exact hR _ _ hG
  unfold dS;by_cases hr:(m.r,m.ai)∈N.wk
  .rw[Ω hr];exact MO.same hn
  rw[Ο hr];split
  .rename_i A;by_cases J:E6 S 5 B (G7 m.Α[0]!.to m.Α[0]!.am m.Μ)=true
   .rw[Ω J];refine⟨?_,hn⟩;have e:m.Α[0]! = l:=by rw[Q];rfl
    have hk:ey (L3 S 5 B (G7 m.Α[0]!.to m.Α[0]!.am m.Μ))=ey S+2*l.am.length:=by rw[nv J,kA A.2,e]
    have h5:=Gn (rv:=N.wk) I h3 a2 hr;show ey (L3 S 5 B (G7 m.Α[0]!.to m.Α[0]!.am m.Μ))+F0 N+nP g R N+nR g R d (N.wk++[(m.r,m.ai)])<=ey S+F0 N+nP g R N+nR g R d N.wk;grind
   .rw[Ο J];exact MO.same hn
  .exact MO.same hn
 rw[Ο k5];by_cases k6:m.Ζ=6
 .rw[Ω k6];unfold OI ω.K5;grind [MO.same,MO.K5,cl,eY,kE,dU]
 rw[Ο k6];exact MO.same hn
theorem pQ{α:Type}{f:α->ω->Τ->L6}{R:List Int}{d:Int}{P:Gh->α->Prop}(hP:∀g fJ a,Rf d g fJ->P g a->P fJ a)(hf:∀a g N S,Ng g->M1 g d N S->P g a->I3 g d (f a N S))(hq:∀a g N S,(∀r ls,g.Β r=some ls->r∈R)->Ng g->M1 g d N S->(N.Γ.map (·.1)).Nodup->P g a->MO g R d N S (f a N S)):∀(l:List α) (g:Gh) (N:ω) (S:Τ),(∀r ls,g.Β r=some ls->r∈R)->Ng g->M1 g d N S->(N.Γ.map (·.1)).Nodup->(∀a∈l,P g a)->MO g R d N S (bT f l N S)
 | [],g,N,S,_,_,_,hn,_=>MO.same hn
 | a::l,g,N,S,hR,hg,h,hn,T=>by
  have p1:=hq a g N S hR hg h hn ah;obtain⟨g1,q1,q2,q3,_⟩:=hf a g N S hg h ah;have p2:=pQ hP hf hq l g1 (f a N S).2.1 (f a N S).2.2 (λr ls e=>hR r ls (by rw[<-q1.Β];exact e)) q2 q3 p1.np ah;refine⟨?_,p2.np⟩;have I:=p2.le;rw[T5 q1.Β,T5 q1.Β] at I;exact aO I p1.le
def yP{R:List Int}{d B:Int}:∀(Ξ:Nat) (m:fK) (g:Gh) (N:ω) (S:Τ),(∀r ls,g.Β r=some ls->r∈R)->Ng g->M1 g d N S->(N.Γ.map (·.1)).Nodup->L4 g m->MO g R d N S (bH d B Ξ m N S)
 | 0,_,g,N,S,_,_,_,hn,_=>by
  show MO g R d N S ([],N,S);exact MO.same hn
 | Ξ+1,m,g,N,S,hR,hg,h,hn,hm=>by
  have e:bH d B (Ξ+1) m N S=if m.to≠d then([m],N,S) else bT (bH d B Ξ) (aX d m.Ν m.ct B N S).1 (aX d m.Ν m.ct B N S).2.1 (aX d m.Ν m.ct B N S).2.2:=rfl;rw[e];by_cases ht:m.to≠d
  .rw[Ω ht];exact MO.same hn
  .rw[Ο ht];have ht:m.to=d:=Classical.byContradiction ht;have A:L4 g ⟨m.Ν,d,m.ct⟩:=by rw[<-ht];exact hm
   have p1:=tg (R:=R) (Ν:=m.Ν) (B:=B) (S:=S) hR hn A;obtain⟨g1,q1,q2,q3,q4⟩:=oN (Ν:=m.Ν) (B:=B) hg h A;have p2:=pQ (f:=bH d B Ξ) (P:=L4) (R:=R) (λg fJ y=>L4.ext g fJ y) (λa g N S=>rB Ξ a g N S) (λa g N S=>yP Ξ a g N S) _ g1 _ _ (λr ls e=>hR r ls (by rw[<-q1.Β];exact e)) q2 q3 p1.np q4;have I:=p2.le;rw[T5 q1.Β,T5 q1.Β] at I;exact⟨aO I p1.le,p2.np⟩
def CW{g:Gh}{R:List Int}{d B:Int}{l:List fK}{N:ω}{S:Τ}(hR:∀r ls,g.Β r=some ls->r∈R)(hg:Ng g)(h:M1 g d N S)(hn:(N.Γ.map (·.1)).Nodup)(T:∀y∈l,L4 g y):MO g R d N S (K6 d B l N S) :=
 pQ (P:=L4) (R:=R) (λg fJ y=>L4.ext g fJ y) (λa g N S=>rB 7 a g N S) (λa g N S=>yP 7 a g N S) l g N S hR hg h hn T
def Ig{g:Gh}{R:List Int}{d F B:Int}{x:fK}{N:ω}{S:Τ}(hR:∀r ls,g.Β r=some ls->r∈R)(hg:Ng g)(h:M1 g d N S)(hn:(N.Γ.map (·.1)).Nodup)(M:L4 g x):MO g R d N S (dM d F x B N S):=by
 unfold dM;by_cases hc:x.to=d/\(0<=x.Ν/\x.Ν<F)/\x.Ν≠d
 .rw[Ω hc];have A:L4 g ⟨x.Ν,d,x.ct⟩:=by rw[<-hc.1];exact M
  have p1:=tg (R:=R) (Ν:=x.Ν) (B:=B) (S:=S) hR hn A;obtain⟨g1,q1,q2,q3,q4⟩:=oN (Ν:=x.Ν) (B:=B) hg h A;have p2:=CW (R:=R) (B:=B) (λr ls e=>hR r ls (by rw[<-q1.Β];exact e)) q2 q3 p1.np q4;have I:=p2.le;rw[T5 q1.Β,T5 q1.Β] at I;exact⟨aO I p1.le,p2.np⟩
 .rw[Ο hc];exact MO.same hn
theorem Mh{g:Gh}{d B r:Int}{N:ω}{S:Τ}(hg:Ng g)(h:M1 g d N S):I3 g d (MX d B r N S)/\∀R:List Int,(∀r ls,g.Β r=some ls->r∈R)->(N.Γ.map (·.1)).Nodup->MO g R d N S (MX d B r N S):=by
 unfold MX;cases M:ε N.Ψ r with
 | none=>grind [I3.same,MO.same]
 | some x =>
  have hG:=h.bg r x M
  have e1:(cD d r x B).2.Α=x.Α:=by
   unfold cD;split
   .rfl
   split
   .rfl
   .rfl
  have A:∀y∈(cD d r x B).1,L4 g y:=by
   unfold cD;split
   .exact ip (λq=>iJ (show(3:Int)=1 from q) ac) (by show ¬(3:Int)=5;decide)
   split
   .exact ip (λq=>iJ (show(3:Int)=1 from q) ac) (by show ¬(3:Int)=5;decide)
   .exact ip (λ_=>hG) ah
  have hN:=h.J2 (c:=N.ν) (r:=r) (x:=(cD d r x B).2) ah;dsimp only
  exact⟨zZ hg hN A,λR hR hn=>by
   have p:=CW (R:=R) (B:=B) hR hg hN hn A;exact⟨p.le,p.np⟩⟩
theorem Lk{g:Gh}{R:List Int}{d B r:Int}{N:ω}{S:Τ}(hR:∀r ls,g.Β r=some ls->r∈R)(hg:Ng g)(h:M1 g d N S)(hn:(N.Γ.map (·.1)).Nodup):MO g R d N S (PV d B r N S):=by
 obtain⟨hU,hP⟩:=Mh (B:=B) (r:=r) hg h;have p1:=hP R hR hn;obtain⟨g1,q1,q2,q3,q4⟩:=hU
 have p2:MO g R d (MX d B r N S).2.1 (MX d B r N S).2.2 (K7 d B r (MX d B r N S).2.1 (MX d B r N S).2.2):=by
  generalize MX d B r N S=B3 at *;unfold K7;cases hp:ε B3.2.1.Γ r with
  | none=>exact MO.same p1.np
  | some p =>
   dsimp only;split
   .refine MO.K5 p1.np hp (rx (λo S=>?_) p.Α _);unfold B9;split
    .grind
    .exact mW
   .exact MO.same p1.np
 exact⟨aO p2.le p1.le,p2.np⟩
theorem BY{g:Gh}{R:List Int}{d B:Int}{N:ω}{S:Τ}(hR:∀r ls,g.Β r=some ls->r∈R)(hg:Ng g)(h:M1 g d N S)(hn:(N.Γ.map (·.1)).Nodup):MO g R d N S (cU d B N S) :=
 pQ (P:=λ_ _=>True) ah (λa g N S I Q _=>HC I Q) (by grind [Lk]) (dZ N) g N S hR hg h hn ah
structure Oy (F:Int) (b:Nat) (g:Gh) (R:List Int) (W:jA):Prop where
 cv:Rg F g W
 hR:∀r ls,g.Β r=some ls->r∈R
 QX:∀r∈R,∃ls,g.Β r=some ls
 pn:∀i:Int,0<=i/\i<F->pn g R i (W.nd i).1 (W.nd i).2<=b
def Oy.send{F:Int}{b:Nat}{g:Gh}{R:List Int}{W:jA}(h:Oy F b g R W)(T:(W.D8.length:Int)=F){d:Int}(hs:0<=d/\d<F){Δ:L6}(hr:I3 g d Δ)(hp:MO g R d (W.nd d).1 (W.nd d).2 Δ):∃fJ,fJ.Β=g.Β/\Oy F b fJ R (W.send d Δ):=by
 obtain⟨fJ,q1,q2⟩:=h.cv.send T hs hr;refine⟨fJ,q1,q2,by rw[q1];exact h.hR,by rw[q1];exact h.QX,λi hi=>?_⟩;have e:(W.send d Δ).nd i=if i=d then(Δ.2.1,Δ.2.2) else W.nd i:=ux (W:=W) T hs hi;rw[e,T5 q1];by_cases q:i=d
 .rw[Ω q,q];exact aO hp.le (h.pn d hs)
 .rw[Ο q];exact h.pn i hi
theorem F1.lower{F:Int}{c b b' ο an:Nat}{W:jA}(h:F1 F c b ο an W)(hb:∀i:Int,0<=i/\i<F->ey (W.nd i).2+F0 (W.nd i).1<=b'):F1 F c b' ο an W:=by
 refine⟨h.MY,h.len,λi hi=>?_,h.O,h.ml,h.B,h.il⟩;have hN:=h.nd i hi;have T:=h.len;have q:=hb i ah;have e:W.nd (i:Int)=W.D8[i]!:=by unfold jA.nd;rw[show((i:Nat):Int).toNat=i by omega]
 rw[e] at q;exact⟨hN.a,q,hN.ν⟩
theorem um(g:Gh)(R:List Int)(i:Int)(N:ω)(S:Τ):ey S+F0 N<=pn g R i N S:=by unfold pn;omega
theorem KT{F:Int}{c b ο an:Nat}{g:Gh}{R:List Int}{W:jA}(h:F1 F c b ο an W)(hC:Oy F b g R W)(hb:b+24<=2000):F1 F c b (ο+3300) an (Nv F W)/\∃fJ,fJ.Β=g.Β/\Oy F b fJ R (Nv F W):=by
 have hk:=wQ h hb
 have J:∃fJ,fJ.Β=g.Β/\Oy F b fJ R (Nv F W):=by
  unfold Nv;cases hm:W.O with
  | nil=>grind
  | cons m O =>
   have M:=h.O m ah;have A:=hC.cv.O m ah;have hN:=h.at M.x.to;have hd:Oy F b g R { W with O:=O }:=⟨hC.cv.drop rfl ah,hC.hR,hC.QX,hC.pn⟩;dsimp only;rw[Ω M.x.to];exact hd.send h.len M.x.to (Kj hC.cv.gh (hC.cv.nd m.to M.x.to) A) (Ig hC.hR hC.cv.gh (hC.cv.nd m.to M.x.to) hN.a.Ol.np A)
 obtain⟨fJ,e,q⟩:=J;exact⟨hk.lower λi hi=>aO (um fJ R i _ _) (q.pn i hi),fJ,e,q⟩
def Li{F:Int}{c b ο an:Nat}{g:Gh}{R:List Int}{W:jA}(h:F1 F c b ο an W)(hC:Oy F b g R W)(hb:b<=2000){k:Int}(hk:0<=k/\k<F):F1 F c b (ο+600000000) an (Pm W k)/\∃fJ,fJ.Β=g.Β/\Oy F b fJ R (Pm W k) :=
 ⟨wU h hb hk,hC.send h.len hk (Fm hC.cv.gh (hC.cv.nd k hk)) (BY hC.hR hC.cv.gh (hC.cv.nd k hk) (h.at hk).a.Ol.np)⟩
def vK{F:Int}{c b ο an:Nat}{g:Gh}{R:List Int}{W:jA}(h:F1 F c b ο an W)(hC:Oy F b g R W)(hb:b+24<=2000):∀k:Nat,F1 F c b (ο+3300*k) an (Oa F W k)/\∃fJ,fJ.Β=g.Β/\Oy F b fJ R (Oa F W k)
 | 0=>⟨h,g,rfl,hC⟩
 | k+1=>by
  obtain⟨I,g1,e1,c1⟩:=vK h hC hb k;obtain⟨Q,g2,e2,c2⟩:=KT I c1 hb;exact⟨Q.mono D D D D,g2,e2.trans e1,c2⟩
theorem rS{F:Int}{c b ο an:Nat}{g:Gh}{R:List Int}{W:jA}(h:F1 F c b ο an W)(hC:Oy F b g R W)(hb:b<=2000):∀k:Nat,(k:Int)<=F->F1 F c b (ο+600000000*k) an (NX W k)/\∃fJ,fJ.Β=g.Β/\Oy F b fJ R (NX W k)
 | 0,_=>⟨h,g,rfl,hC⟩
 | k+1,hk=>by
  obtain⟨I,g1,e1,c1⟩:=rS h hC hb k D;obtain⟨Q,g2,e2,c2⟩:=Li I c1 hb (k:=(k:Int)) ah;exact⟨Q.mono D D D D,g2,e2.trans e1,c2⟩
def nH{F:Int}{c b ο an:Nat}{g:Gh}{R:List Int}{W:jA}(h:F1 F c b ο an W)(hc:c<=63)(hC:Oy F b g R W)(hb:b<=1900):lO F (ο+7300000000) an W/\F1 F c b (ο+7300000000) an (iT F W)/\∃fJ,fJ.Β=g.Β/\Oy F b fJ R (iT F W):=by
 have hr:=h.MY;obtain⟨I,g1,e1,c1⟩:=rS h hC D F.toNat D;obtain⟨Q,g2,e2,c2⟩:=vK I c1 D 400;refine⟨⟨λk hk=>((rS h hC D k hk).1).mono hc D D D,λk hk=>((vK I c1 D k).1).mono hc D D D⟩,Q.mono D D D D,g2,e2.trans e1,c2⟩
def ue{F:Int}{c b ο an:Nat}{g:Gh}{R:List Int}{W:jA}(h:F1 F c b ο an W)(hc:c<=63)(hC:Oy F b g R W)(hb:b<=1900):∀Δ:Nat,F1 F c b (ο+7300000000*Δ) an (cy F W Δ)/\∃fJ,fJ.Β=g.Β/\Oy F b fJ R (cy F W Δ)
 | 0=>⟨h,g,rfl,hC⟩
 | Δ+1=>by
  obtain⟨I,g1,e1,c1⟩:=ue h hc hC hb Δ;obtain⟨_,Q,g2,e2,c2⟩:=nH I hc c1 hb;exact⟨Q.mono D D D D,g2,e2.trans e1,c2⟩
def oh{F:Int}{c b ο an n:Nat}{g:Gh}{R:List Int}{W:jA}(h:F1 F c b ο an W)(hc:c<=63)(hC:Oy F b g R W)(hb:b<=1900):∀Δ,Δ<n->lO F (ο+7300000000*n) an (cy F W Δ):=λΔ hr=>by
 obtain⟨I,g1,e1,c1⟩:=ue h hc hC hb Δ;obtain⟨q,_⟩:=nH I hc c1 hb;exact⟨λk hk=>(q.1 k hk).mono D D D D,λk hk=>(q.2 k hk).mono D D D D⟩
