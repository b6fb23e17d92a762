/- Lemmas. -/
import Derived.Test.YtlgpgjdggilkgaaGreatDoorEtbm
set_option linter.all false
namespace Go.Proofs.YtlgpgjdggilkgaaGreatDoor
section
open Go.V
abbrev Nk:=Int->υ
def Pg(nd:Nk)(k A:Int)(F5:Int->Prop):Prop:=∃p,ζ (nd k).Β A=some p/\F5 p.state
def PM(nd:Nk)(A:Int)(t:Bool):Prop:=∃x,ζ (nd (bZ A)).Φ A=some x/\x.dec=true/\x.F7=t
structure Px (N N' : υ):Prop where
 bg:∀A x,ζ N.Φ A=some x->∃x',ζ N'.Φ A=some x'/\x'.Z=x.Z/\x'.iM=x.iM/\(x.dec=true->x'.dec=true/\x'.F7=x.F7)/\∀k∈x.told,k∈x'.told
 pt:∀A p,ζ N.Β A=some p->∃p',ζ N'.Β A=some p'/\(p'.state=p.state\/p.state=0/\(p'.state=1\/p'.state=2))
 rv:∀k∈N.sh,k∈N'.sh
theorem Px.refl(N:υ):Px N N:=⟨aj,aj,λk h=>h⟩
def Pq(nd:Nk)(i:Int)(N:υ):Nk:=λj=>if j=i then N else nd j
theorem ez(nd:Nk)(i:Int)(N:υ):Pq nd i N i=N:=Χ rfl
theorem fE{nd:Nk}{i j:Int}(N:υ)(h:j≠i):Pq nd i N j=nd j:=Ν h
abbrev Ro(nd ZX : Nk):Prop:=∀j,Px (nd j) (ZX j)
theorem kG{nd:Nk}{i:Int}{N:υ}(h:Px (nd i) N):Ro nd (Pq nd i N):=by grind [ez,fE,Px.refl]
theorem Ro.refl(nd:Nk):Ro nd nd:=λj=>Px.refl _
abbrev Wa(F5:Int->Prop):Prop:=∀s s' : Int,F5 s->(s' = s\/s=0/\(s' = 1\/s' = 2))->F5 s'
def Xa:Wa λs=>s≠3:=D
def X2:Wa λs=>s≠0:=D
def Xb:Wa λs=>s=1:=D
def Pg.mono{nd B : Nk}{k A:Int}{F5:Int->Prop}(h:Pg nd k A F5)(U:Ro nd B)(hQ:Wa F5):Pg B k A F5:=by
 obtain⟨p,K,T⟩:=h;obtain⟨p',q1,q2⟩:=(U k).pt A p K;exact⟨p',q1,hQ _ _ T q2⟩
def PM.mono{nd B : Nk}{A:Int}{t:Bool}(h:PM nd A t)(U:Ro nd B):PM B A t:=by
 obtain⟨x,K,T,h3⟩:=h;obtain⟨x',q1,_,_,q4,_⟩:=(U _).bg A x K;exact⟨x',q1,(q4 T).1,(q4 T).2.trans h3⟩
structure R9 (g ew : Gh):Prop where
 Α:∀A ls,g.Α A=some ls->ew.Α A=some ls
 Υ:∀k l,g.Υ k=some l->ew.Υ k=some l
theorem R9.of{g ew : Gh}(h:ew.Α=g.Α):R9 g ew:=⟨aj,λk l q=>(lj h k).trans q⟩
def R9.G5{g:Gh}{A:Int}{ls:List lu}(h:g.Α A=none):R9 g (g.G5 A ls):=⟨λj l q=>rx h q,λk l q=>kJ h q⟩
structure Ph (G:Int) (g:Gh) (nd:Nk) (y:eU):Prop where
 Λ:0<=y.Λ/\y.Λ<G
 to:0<=y.to/\y.to<G
 kd:1<=y.ct.Δ/\y.ct.Δ<=6
 G5:∃ls,g.Α y.ct.A=some ls/\(y.ct.Δ=1\/y.ct.Δ=3->y.Λ=bZ y.ct.A/\y.to∈bX ls G.toNat)/\(y.ct.Δ=2\/y.ct.Δ=4->y.to=bZ y.ct.A/\y.Λ∈bX ls G.toNat)
 vo:y.ct.Δ=2->y.ct.yes=true->Pg nd y.Λ y.ct.A λs=>s≠3
 de:y.ct.Δ=3->PM nd y.ct.A y.ct.yes
 td:y.ct.Δ=4->Pg nd y.Λ y.ct.A λs=>s≠0
 tr:y.ct.Δ=5->(∃l,g.Υ (y.ct.A,y.ct.ω)=some l/\l.d=y.Λ/\l.ts=y.to/\y.Λ≠y.to/\y.ct.Z=[l]/\y.ct.Κ.length=l.am.length)/\Pg nd y.Λ y.ct.A λs=>s=1
 go:y.ct.Δ=6->(∃l,g.Υ (y.ct.A,y.ct.ω)=some l/\l.d=y.to/\l.ts=y.Λ)/\(y.ct.A,y.ct.ω)∈(nd y.Λ).sh
def Ph.mono{G:Int}{g ew : Gh}{nd B : Nk}{y:eU}(h:Ph G g nd y)(hg:R9 g ew)(U:Ro nd B):Ph G ew B y:=by
 obtain⟨ls,r1,r2⟩:=h.G5;refine⟨h.Λ,h.to,h.kd,⟨ls,hg.Α _ _ r1,r2⟩,λa b=>(h.vo a b).mono U Xa,λa=>(h.de a).mono U,λa=>(h.td a).mono U X2,λa=>?_,λa=>?_⟩
 .obtain⟨⟨l,q1,q2⟩,q3⟩:=h.tr a;exact⟨⟨l,hg.Υ _ _ q1,q2⟩,q3.mono U Xb⟩
 .obtain⟨⟨l,q1,q2⟩,q3⟩:=h.go a;exact⟨⟨l,hg.Υ _ _ q1,q2⟩,(U _).rv _ q3⟩
structure TD (G:Int) (nd:Nk) (A:Int) (x:K6):Prop where
 O9:x.iM=bX x.Z G.toNat
 U4:x.I8.Nodup
 VB:∀k∈x.I8,k∈x.iM/\Pg nd k A λs=>s≠3
 U5:∀k∈x.told,Pg nd k A λs=>s≠0
 tk:x.dec=true->x.F7=true->∀k∈x.iM,Pg nd k A λs=>s≠3
 lt:x.dec=false->x.I8.length<x.iM.length
 t0:x.dec=false->x.F7=false
def TD.mono{G:Int}{nd B : Nk}{A:Int}{x:K6}(h:TD G nd A x)(U:Ro nd B):TD G B A x :=
 ⟨h.O9,h.U4,λk hk=>⟨(h.VB k hk).1,(h.VB k hk).2.mono U Xa⟩,λk hk=>(h.U5 k hk).mono U X2,λa b k hk=>(h.tk a b k hk).mono U Xa,h.lt,h.t0⟩
def Rp(os:List hy):List (lu×Int):=os.map λo=>(o.Υ,o.ω)
structure U6 (nd:Nk) (i A st:Int) (o:hy):Prop where
 was:o.state=0\/o.state=1\/o.state=2
 s0:st=0->o.state=0
 s1:o.state=1->st=1/\o.Υ.ts≠i/\o.Κ.length=o.Υ.am.length
 s2:st=1->o.state=2->o.Υ.ts≠i->(A,o.ω)∈(nd o.Υ.ts).sh
def U6.mono{nd B : Nk}{i A st:Int}{o:hy}(h:U6 nd i A st o)(U:Ro nd B):U6 B i A st o:=⟨h.was,h.s0,h.s1,λa b c=>(U _).rv _ (h.s2 a b c)⟩
structure Sa (G:Int) (g:Gh) (nd:Nk) (i A:Int) (p:NF):Prop where
 G5:∃ls,g.Α A=some ls/\i∈bX ls G.toNat/\(p.state≠3->Rp p.Z=Rp (B3 i 0 ls))
 st:p.state=0\/p.state=1\/p.state=2\/p.state=3
 s3:p.state=3->p.Z=[]
 s1:p.state=1->PM nd A true
 s2:p.state=2->PM nd A false
 ow:∀o∈p.Z,U6 nd i A p.state o
def Sa.mono{G:Int}{g ew : Gh}{nd B : Nk}{i A:Int}{p:NF}(h:Sa G g nd i A p)(hg:R9 g ew)(U:Ro nd B):Sa G ew B i A p:=by
 obtain⟨ls,r1,r2⟩:=h.G5;exact⟨⟨ls,hg.Α _ _ r1,r2⟩,h.st,h.s3,λq=>(h.s1 q).mono U,λq=>(h.s2 q).mono U,λo ho=>(h.ow o ho).mono U⟩
def VC(g:Gh)(nd:Nk)(i:Int)(k:Int×Int):Prop:=∃l,g.Υ k=some l/\l.ts=i/\l.d≠i/\Pg nd l.d k.1 λs=>s=1
def VC.mono{g ew : Gh}{nd B : Nk}{i:Int}{k:Int×Int}(h:VC g nd i k)(hg:R9 g ew)(U:Ro nd B):VC ew B i k:=by
 obtain⟨l,q1,q2,q3,q4⟩:=h;exact⟨l,hg.Υ _ _ q1,q2,q3,q4.mono U Xb⟩
structure PY (G:Int) (g:Gh) (nd:Nk) (Q:List eU):Prop where
 rg:∀A ls,g.Α A=some ls->(0<=bZ A/\bZ A<G)/\∃x,ζ (nd (bZ A)).Φ A=some x/\x.Z=ls
 bg:∀i:Int,0<=i/\i<G->∀A x,ζ (nd i).Φ A=some x->bZ A=i/\TD G nd A x
 pt:∀i:Int,0<=i/\i<G->∀A p,ζ (nd i).Β A=some p->Sa G g nd i A p
 rv:∀i:Int,0<=i/\i<G->∀k∈(nd i).sh,VC g nd i k
 Q:∀y∈Q,Ph G g nd y
def PY.sub{G:Int}{g:Gh}{nd:Nk}{Q B : List eU}(h:PY G g nd Q)(hm:∀y∈B,y∈Q):PY G g nd B:=⟨h.rg,h.bg,h.pt,h.rv,λy Y=>h.Q y (hm y Y)⟩
structure NB (G:Int) (g:Gh) (nd:Nk) (i:Int) (N' : υ) (new:List eU):Prop where
 le:Px (nd i) N'
 bg:∀A x,ζ N'.Φ A=some x->ζ (nd i).Φ A=some x\/(bZ A=i/\TD G (Pq nd i N') A x)
 pt:∀A p,ζ N'.Β A=some p->ζ (nd i).Β A=some p\/Sa G g (Pq nd i N') i A p
 rv:∀k∈N'.sh,k∈(nd i).sh\/VC g (Pq nd i N') i k
 Q:∀y∈new,Ph G g (Pq nd i N') y
theorem PY.step{G:Int}{g ew : Gh}{nd:Nk}{Q cN new:List eU}{i:Int}{N' : υ}(h:PY G g nd Q)(hs:NB G g nd i N' new)(hg:ew.Α=g.Α)(hr:∀y∈cN,y∈Q):PY G ew (Pq nd i N') (cN++new):=by
 have U:=kG hs.le;have hG:=R9.of hg;have B:∀j,Pq nd i N' j=if j=i then N' else nd j:=λj=>rfl;refine⟨λA ls q=>?_,λj hj A x q=>?_,λj hj A p q=>?_,λj hj k q=>?_,λy Y=>?_⟩
 .rw[hg] at q;obtain⟨q1,x,q2,q3⟩:=h.rg A ls q;obtain⟨x',r1,r2,_⟩:=(U _).bg A x q2;grind
 .by_cases e:j=i
  .rw[B,Χ e] at q;rw[e] at hj ⊢;rcases hs.bg A x q with q|q
   .exact⟨(h.bg i hj A x q).1,(h.bg i hj A x q).2.mono U⟩
   .exact q
  .rw[B,Ν e] at q;exact⟨(h.bg j hj A x q).1,(h.bg j hj A x q).2.mono U⟩
 .by_cases e:j=i
  .rw[B,Χ e] at q;rw[e] at hj ⊢;rcases hs.pt A p q with q|q
   .exact(h.pt i hj A p q).mono hG U
   .exact q.mono hG (Ro.refl _)
  .rw[B,Ν e] at q;exact(h.pt j hj A p q).mono hG U
 .by_cases e:j=i
  .rw[B,Χ e] at q;rw[e] at hj ⊢;rcases hs.rv k q with q|q
   .exact(h.rv i hj k q).mono hG U
   .exact q.mono hG (Ro.refl _)
  .rw[B,Ν e] at q;exact(h.rv j hj k q).mono hG U
 .rcases J8 Y with Y|Y
  .exact(h.Q y (hr y Y)).mono hG U
  .exact(hs.Q y Y).mono hG (Ro.refl _)
theorem NB.same{G:Int}{g:Gh}{nd:Nk}{i:Int}{new:List eU}(hm:∀y∈new,Ph G g nd y):NB G g nd i (nd i) new :=
 ⟨Px.refl _,aj,aj,aj,λy Y=>(hm y Y).mono (R9.of rfl) (kG (Px.refl _))⟩
theorem Px.J1{N:υ}{A c:Int}{y:K6}(h:∀x,ζ N.Φ A=some x->y.Z=x.Z/\y.iM=x.iM/\(x.dec=true->y.dec=true/\y.F7=x.F7)/\∀k∈x.told,k∈y.told):Px N { N with μ:=c,Φ:=cZ N.Φ A y } :=
 ⟨by grind [cF],aj,λk q=>q⟩
theorem Px.K7{N:υ}{A c:Int}{y:NF}(h:∀p,ζ N.Β A=some p->y.state=p.state\/p.state=0/\(y.state=1\/y.state=2)):Px N { N with U:=c,Β:=cZ N.Β A y } :=
 ⟨aj,by grind [cF],λk q=>q⟩
theorem NB.J1{G:Int}{g:Gh}{nd:Nk}{i A c:Int}{y:K6}{new:List eU}(M:bZ A=i)(h:∀x,ζ (nd i).Φ A=some x->y.Z=x.Z/\y.iM=x.iM/\(x.dec=true->y.dec=true/\y.F7=x.F7)/\∀k∈x.told,k∈y.told)(Y:TD G nd A y)(hm:Ro nd (Pq nd i { nd i with μ:=c,Φ:=cZ (nd i).Φ A y })->∀z∈new,Ph G g (Pq nd i { nd i with μ:=c,Φ:=cZ (nd i).Φ A y }) z):NB G g nd i { nd i with μ:=c,Φ:=cZ (nd i).Φ A y } new:=by
 have B:=Px.J1 (c:=c) h;refine⟨B,λj x q=>?_,aj,aj,hm (kG B)⟩;have q:ζ (cZ (nd i).Φ A y) j=some x:=q;rw[cF] at q;by_cases e:j=A
 .rw[Χ e] at q;obtain rfl:=Pr q;rw[e];exact .inr ⟨M,Y.mono (kG B)⟩
 grind
theorem NB.K7{G:Int}{g:Gh}{nd:Nk}{i A c:Int}{y:NF}{new:List eU}(h:∀p,ζ (nd i).Β A=some p->y.state=p.state\/p.state=0/\(y.state=1\/y.state=2))(Y:Sa G g nd i A y)(hm:Ro nd (Pq nd i { nd i with U:=c,Β:=cZ (nd i).Β A y })->∀z∈new,Ph G g (Pq nd i { nd i with U:=c,Β:=cZ (nd i).Β A y }) z):NB G g nd i { nd i with U:=c,Β:=cZ (nd i).Β A y } new:=by
 have B:=Px.K7 (c:=c) h;refine⟨B,aj,λj p q=>?_,aj,hm (kG B)⟩;have q:ζ (cZ (nd i).Β A y) j=some p:=q;rw[cF] at q;by_cases e:j=A
 .rw[Χ e] at q;obtain rfl:=Pr q;rw[e];exact .inr (Y.mono (R9.of rfl) (kG B))
 grind
theorem Pg.set{nd:Nk}{i A c:Int}{y:NF}{F5:Int->Prop}(h:F5 y.state):Pg (Pq nd i { nd i with U:=c,Β:=cZ (nd i).Β A y }) i A F5 :=
 ⟨y,by rw[ez];show ζ (cZ (nd i).Β A y) A=_;rw[cF,Χ rfl],h⟩
theorem PM.set{nd:Nk}{i A c:Int}{y:K6}(B:bZ A=i)(hd:y.dec=true):PM (Pq nd i { nd i with μ:=c,Φ:=cZ (nd i).Φ A y }) A y.F7 :=
 ⟨y,by rw[B,ez];show ζ (cZ (nd i).Φ A y) A=_;rw[cF,Χ rfl],hd,rfl⟩
theorem Wb{G:Int}{g:Gh}{nd:Nk}{i to Δ A ω:Int}{yes:Bool}{ls:List lu}(hi:0<=i/\i<G)(a2:0<=to/\to<G)(hk:(1<=Δ/\Δ<=6)/\Δ≠5)(hG:g.Α A=some ls)(B:Δ=1\/Δ=3->i=bZ A/\to∈bX ls G.toNat)(M:Δ=2\/Δ=4->to=bZ A/\i∈bX ls G.toNat)(vo:Δ=2->yes=true->Pg nd i A λs=>s≠3)(de:Δ=3->PM nd A yes)(td:Δ=4->Pg nd i A λs=>s≠0)(go:Δ=6->(∃l,g.Υ (A,ω)=some l/\l.d=to/\l.ts=i)/\(A,ω)∈(nd i).sh):Ph G g nd ⟨i,to,C9 Δ A ω yes⟩ :=
 ⟨hi,a2,hk.1,⟨ls,hG,B,M⟩,vo,de,td,λq=>hD q hk.2,go⟩
theorem Gp{P:eU->Prop}{a:eU}(h:P a):∀y∈[a],P y:=aj
theorem jz{P:eU->Prop}:∀y∈([]:List eU),P y:=aj
theorem ir{i:Int}{gs W:List Int}{ct:G3}{y:eU}(h:y∈ck i gs W ct):∃k∈gs,k∉W/\y=⟨i,k,ct⟩:=by
 grind [ck]
theorem oa{ls:List lu}{G k:Int}(hs:0<=G)(h:k∈bX ls G.toNat):0<=k/\k<G:=by
 have:=(Vs.1 h).1
 omega
theorem Sa.Υ{G:Int}{g:Gh}{nd:Nk}{i A:Int}{p:NF}(h:Sa G g nd i A p){o:hy}(ho:o∈p.Z):g.Υ (A,o.ω)=some o.Υ/\o.Υ.d=i:=by
 obtain⟨ls,r1,_,r3⟩:=h.G5;have h3:p.state≠3:=λq=>by rw[h.s3 q] at ho;cases ho
 have m:(o.Υ,o.ω)∈Rp (B3 i 0 ls):=by rw[<-r3 h3];exact List.mem_map.2 ⟨o,ho,rfl⟩
 obtain⟨o',B,e⟩:=H9 m;obtain⟨⟨q1,q2⟩,q3,_⟩:=iX B;grind [Gh.Υ]
section
variable {G:Int}{g:Gh}{nd:Nk}{Q:List eU}{i Λ E:Int}{m:G3}{S:Ρ}
theorem Iv(hA:PY G g nd Q)(hi:0<=i/\i<G)(hm:Ph G g nd ⟨Λ,i,m⟩)(hJ:L5 g ⟨Λ,i,m⟩)(hk:m.Δ=1):NB G g nd i (eN i m E (nd i) S).2.1 (eN i m E (nd i) S).1:=by
 obtain⟨ls,r1,r2,_⟩:=hm.G5;have r1:g.Α m.A=some ls:=r1;have r2:=(r2 (.inl hk)).2;have hc:=(hA.rg _ _ r1).1
 have a2:ls=m.Z:=by
  have q:g.Α m.A=some m.Z:=hJ.pr hk;rw[r1] at q;exact aj
 have B:∀M yes,(yes=true->Pg M i m.A λs=>s≠3)->Ph G g M ⟨i,bZ m.A,C9 2 m.A 0 yes⟩:=by grind [Wb]
 unfold eN;cases hp:ζ (nd i).Β m.A with
 | some p =>
  dsimp only;refine NB.same (Gp (B nd _ λq=>⟨p,hp,?_⟩));grind [bB]
 | none =>
  dsimp only;by_cases K:E6 S 2 E (dy (268435456+(nd i).U) (B3 i 0 m.Z))=true
  .rw[Χ K];refine NB.K7 (c:=(nd i).U+1) aj ⟨aj,.inl rfl,aj,aj,aj,λo ho=>?_⟩ (by grind [Pg.set]);have q:=(iX ho).2.2;exact⟨.inl q,λ_=>q,D,D⟩
  .rw[Ν K];exact NB.K7 (c:=(nd i).U) aj ⟨aj,aj,λ_=>rfl,aj,aj,aj⟩ aj
theorem BM{l u:List Int}(K:l.Nodup)(T:∀x∈l,x∈u)(h3:u.length<=l.length):∀x∈u,x∈l:=λx O=>by
 refine Classical.byContradiction λq=>?_
 have:=jo (m:=u) (List.nodup_cons.2 ⟨q,K⟩) λy Y=>by
  rcases Nj Y with rfl|Y
  .exact O
  .exact T y Y
 grind
theorem Wc{l:List Int}{a b:Int}:b∈NX l a↔b∈l\/b=a:=by
 grind [NX]
theorem qd{l:List Int}{a:Int}(h:l.Nodup):(NX l a).Nodup:=by
 grind [NX]
theorem rN{B : Nk}{A:Int}{gs W ls:List _}{t:Bool}(hs:0<=G)(hi:0<=i/\i<G)(hG:g.Α A=some ls)(M:bZ A=i)(a2:gs=bX ls G.toNat)(hd:PM B A t):∀y∈ck i gs W (C9 3 A 0 t),Ph G g B y:=by grind [ir,Wb,oa]
def TD.X6{A:Int}{x:K6}(h:TD G nd A x):TD G nd A (x.RY false):=⟨h.O9,h.U4,h.VB,h.U5,λ_ q=>(by cases q),λq=>(by cases q),λq=>(by cases q)⟩
theorem HZ(hA:PY G g nd Q)(hB:∀A x,ζ (nd i).Φ A=some x->g.Α A=some x.Z)(hi:0<=i/\i<G)(hm:Ph G g nd ⟨Λ,i,m⟩)(hk:m.Δ=2):NB G g nd i (em i Λ m E (nd i) S).2.1 (em i Λ m E (nd i) S).1:=by
 obtain⟨ls,r1,_,r3⟩:=hm.G5;have r1:g.Α m.A=some ls:=r1;have r3:Λ∈bX ls G.toNat:=aj;unfold em;cases O:ζ (nd i).Φ m.A with
 | none=>exact NB.same jz
 | some x =>
  obtain⟨B,hE⟩:=hA.bg i hi _ _ O;have a5:ls=x.Z:=by have q:=hB _ _ O;rw[r1] at q;exact aj
  have a4:x.iM=bX ls G.toNat:=by rw[a5];exact hE.O9
  dsimp only;split
  .exact NB.same jz
  rename_i hd;split
  .exact NB.J1 (c:=(nd i).μ) B (λx' q=>by rw[O] at q;obtain rfl:=Pr q;exact⟨rfl,rfl,λq=>hD q hd,λ_ q=>q⟩) hE.X6 λ_=>rN D hi r1 B a4 (PM.set (y:=x.RY false) B rfl)
  rename_i Y;have hP:Pg nd Λ m.A λs=>s≠3:=hm.vo hk aj
  have a2:∀k∈NX x.I8 Λ,k∈x.iM/\Pg nd k m.A λs=>s≠3:=λk hk=>by
   rcases Wc.1 hk with hk|rfl
   .exact hE.VB k hk
   grind
  split
  .rename_i M;exact NB.J1 (c:=(nd i).μ) B aj ⟨hE.O9,qd hE.U4,a2,hE.U5,aj,λ_=>M,hE.t0⟩ aj
  .rename_i M;have a3:=BM (qd hE.U4) (λk q=>(a2 k q).1) D;exact NB.J1 (c:=(nd i).μ) B (λx' q=>by rw[O] at q;obtain rfl:=Pr q;exact⟨rfl,rfl,λq=>hD q hd,λ_ q=>q⟩) ⟨hE.O9,qd hE.U4,a2,hE.U5,λ_ _ k hk=>(a2 k (a3 k hk)).2,λq=>(by cases q),λq=>(by cases q)⟩ λ_=>rN D hi r1 B a4 (PM.set (y:=({ x with I8:=NX x.I8 Λ }:K6).RY (dB (E<=x.C6))) B rfl)
theorem If(hA:PY G g nd Q)(hi:0<=i/\i<G)(hm:Ph G g nd ⟨Λ,i,m⟩)(hk:m.Δ=4):NB G g nd i (gc Λ m (nd i) S).2.1 (gc Λ m (nd i) S).1:=by
 have hP:Pg nd Λ m.A λs=>s≠0:=hm.td hk;unfold gc υ.J1;cases O:ζ (nd i).Φ m.A with
 | none=>exact NB.same jz
 | some x =>
  obtain⟨B,hE⟩:=hA.bg i hi _ _ O;dsimp only;refine NB.J1 (c:=(nd i).μ) B (by grind [Wc]) ⟨hE.O9,hE.U4,hE.VB,λk hk=>?_,hE.tk,hE.lt,hE.t0⟩ aj;rcases Wc.1 hk with hk|rfl
  .exact hE.U5 k hk
  .exact hP
theorem Lj(hA:PY G g nd Q)(hi:0<=i/\i<G)(hm:Ph G g nd ⟨Λ,i,m⟩)(hk:m.Δ=6):NB G g nd i (O4 m (nd i) S).2.1 (O4 m (nd i) S).1:=by
 obtain⟨⟨l,l1,l2,l3⟩,hr⟩:=hm.go hk;have l1:g.Υ (m.A,m.ω)=some l:=l1;have l3:l.ts=Λ:=l3;have hr:(m.A,m.ω)∈(nd Λ).sh:=hr;unfold O4 υ.K7;cases hp:ζ (nd i).Β m.A with
 | none=>exact NB.same jz
 | some p =>
  have hT:=hA.pt i hi _ _ hp;obtain⟨ls,r1,r2,r3⟩:=hT.G5;dsimp only;refine NB.K7 (c:=(nd i).U) aj ⟨⟨ls,r1,r2,λq=>?_⟩,hT.st,λq=>by show p.Z.map _=[];rw[hT.s3 q];rfl,hT.s1,hT.s2,λo ho=>?_⟩ aj
  .grind [Rp,aV,eY]
  .obtain⟨a,ha,rfl⟩:=H9 ho;have q:=hT.ow a ha;unfold eY;split
   .rename_i e;obtain⟨s1,s2,_⟩:=q.s1 e.2;refine⟨.inr (.inr rfl),λz=>?_,aj,λ_ _ _=>?_⟩
    .grind
    .have ll:=(hT.Υ ha).1;grind
   .exact q
theorem FH(hA:PY G g nd Q)(hi:0<=i/\i<G)(hm:Ph G g nd ⟨Λ,i,m⟩)(hk:m.Δ=5):NB G g nd i (dU i Λ m E (nd i) S).2.1 (dU i Λ m E (nd i) S).1:=by
 obtain⟨ls,r1,_,_⟩:=hm.G5;have r1:g.Α m.A=some ls:=r1;obtain⟨⟨l,l1,l2,l3,l4,_⟩,hP⟩:=hm.tr hk;have l1:g.Υ (m.A,m.ω)=some l:=l1;have l2:l.d=Λ:=l2;have l3:l.ts=i:=l3;have l4:Λ≠i:=l4;have hP:Pg nd Λ m.A λs=>s=1:=hP;have a2:∀B : Nk,(m.A,m.ω)∈(B i).sh->Ph G g B ⟨i,Λ,C9 6 m.A m.ω false⟩:=λB h=>Wb hi hm.Λ ae r1 D D D (λq=>hD q ae) (λq=>hD q ae) aj;unfold dU;split
 .grind [NB.same]
 split
 .split
  .have M:Px (nd i) { nd i with sh:=(nd i).sh++[(m.A,m.ω)] }:=⟨aj,aj,aj⟩;refine⟨M,aj,aj,λk q=>?_,by grind [ez]⟩;rcases J8 q with q|q
   .exact .inl q
   .rw[F6 q];exact .inr ⟨l,l1,l3,D,by rw[l2];exact hP.mono (kG M) Xb⟩
  .exact NB.same jz
 grind
end
end
section
open Go.V
theorem Ms{S:Ρ}{Δ E:Int}{Q:List A8}(h:E6 S Δ E Q=true)(hk:¬(Δ=4\/Δ=10\/Δ=7\/Δ=9)):(Ny S Δ E Q).length=Q.length:=by
 have h0:=kN h;obtain⟨iL,f1,f2,_⟩:=vj h0 hk;unfold Ny km;rw[Χ h0,f1,List.drop_left,al,oX f2];rfl
structure T2 (i A st:Int) (o:hy) (r:List eU×hy×Ρ):Prop where
 Υ:r.2.1.Υ=o.Υ
 ix:r.2.1.ω=o.ω
 c:r.2.1=o\/(o.state=0/\((st=1/\o.Υ.ts≠i)/\r.2.1.state=1/\r.2.1.Κ.length=o.Υ.am.length\/¬(st=1/\o.Υ.ts≠i)/\r.2.1.state=2))
 Q:∀y∈r.1,y=fF i A r.2.1/\r.2.1.state=1
 SO:r.2.1.state=1->r.2.1=o\/fF i A r.2.1∈r.1
theorem T2.same{i A st:Int}{o:hy}{S:Ρ}:T2 i A st o ([],o,S):=⟨rfl,rfl,.inl rfl,aj,aj⟩
theorem oG{i A st Ι E:Int}(o:hy)(S:Ρ):T2 i A st o (bV i A st Ι E o S):=by
 unfold bV;by_cases h0:o.state≠0
 .rw[Χ h0];exact T2.same
 rw[Ν h0];have h0:o.state=0:=D;by_cases K:st=1/\o.Υ.ts≠i
 .rw[Χ K];by_cases T:E6 S 6 E (B2 Ι 0 o.Υ.am)=true
  .rw[Χ T];refine⟨rfl,rfl,.inr ⟨h0,.inl ⟨K,rfl,?_⟩⟩,aj,aj⟩;grind [B2,Ms]
  .rw[Ν T];exact T2.same
 rw[Ν K];generalize (if st=2 then o.Υ.fr else o.Υ.to)=t;by_cases T:E6 S 2 E (B2 Ι t o.Υ.am)=true
 .rw[Χ T];exact⟨rfl,rfl,aj,aj,aj⟩
 .rw[Ν T];exact T2.same
theorem HL{i A st Ι E:Int}(o:hy)(S:Ρ):T2 i A st o (B8 i A st Ι E o S):=by
 unfold B8;split
 .rename_i h;exact⟨rfl,rfl,.inl rfl,aj,aj⟩
 .exact oG o S
theorem JA{i A st Ι E:Int}{o:hy}{S:Ρ}(h:(B8 i A st Ι E o S).2.1.state=1):fF i A (B8 i A st Ι E o S).2.1∈(B8 i A st Ι E o S).1:=by
 unfold B8 at h ⊢;split
 .grind
 .rename_i q;rw[Ν q] at h;rcases (oG (i:=i) (A:=A) (st:=st) (Ι:=Ι) (E:=E) o S).SO h with e|e
  .grind
  .exact e
structure Xc (i A st:Int) (os:List hy) (r:List eU×List hy×Ρ):Prop where
 ix:Rp r.2.1=Rp os
 each:∀o'∈r.2.1,∃o∈os,(o'.Υ=o.Υ/\o'.ω=o.ω)/\(o' = o\/(o.state=0/\((st=1/\o.Υ.ts≠i)/\o'.state=1/\o'.Κ.length=o.Υ.am.length\/¬(st=1/\o.Υ.ts≠i)/\o'.state=2)))
 Q:∀y∈r.1,∃o'∈r.2.1,y=fF i A o'/\o'.state=1
 SO:∀o'∈r.2.1,o'.state=1->o'∈os\/fF i A o'∈r.1
theorem oK{i A st:Int}{f:hy->Ρ->List eU×hy×Ρ}(hf:∀o S,T2 i A st o (f o S)):∀(os:List hy) (S:Ρ),Xc i A st os (xs f os S)
 | [],S=>⟨rfl,λo ho=>hD ho aG,λy Y=>hD Y aG,λo ho=>hD ho aG⟩
 | o::os,S=>by
  have h:=hf o S;have q:=oK hf os (f o S).2.2;have e:xs f (o::os) S=((f o S).1++(xs f os (f o S).2.2).1,(f o S).2.1::(xs f os (f o S).2.2).2.1,(xs f os (f o S).2.2).2.2):=rfl;rw[e];refine⟨?_,λo' ho=>?_,λy Y=>?_,λo' ho hs=>?_⟩
  .show((f o S).2.1.Υ,(f o S).2.1.ω)::Rp (xs f os (f o S).2.2).2.1=(o.Υ,o.ω)::Rp os;rw[h.Υ,h.ix,q.ix]
  .rcases Nj ho with rfl|ho
   .exact⟨o,aA,⟨h.Υ,h.ix⟩,h.c⟩
   .obtain⟨a,ha,r⟩:=q.each o' ho;grind
  .rcases J8 Y with Y|Y
   .exact⟨_,aA,h.Q y Y⟩
   .obtain⟨a,ha,r⟩:=q.Q y Y;grind
  .rcases Nj ho with rfl|ho
   .rcases h.SO hs with r|r
    .grind
    grind
   .rcases q.SO o' ho hs with r|r
    .grind
    grind
def yc{i A st Ι E:Int}:∀(os:List hy) (S:Ρ),∀o'∈(xs (B8 i A st Ι E) os S).2.1,o'.state=1->fF i A o'∈(xs (B8 i A st Ι E) os S).1
 | [],S,o,ho,_=>hD ho aG
 | o::os,S,o',ho,hs=>by
  rcases Nj ho with rfl|ho
  .exact cI _ (JA hs)
  .exact cw _ (yc os _ o' ho hs)
structure RJ (G:Int) (l:lu):Prop where
 h:Qz l
 d:0<=l.d/\l.d<G
 ts:R6 G l
 am:∀p∈l.am,p.2<=12
 len:l.am.length<=3
def Qk(G:Int)(g:Gh):Prop:=∀A ls,g.Α A=some ls->ls.length<=4/\∀l∈ls,RJ G l
def Qk.lg{G:Int}{g:Gh}(h:Qk G g):Uz g:=λA ls q l U=>((h A ls q).2 l U).h
theorem zm{g:Gh}{k:Int×Int}{l:lu}(U:g.Υ k=some l):∃ls,g.Α k.1=some ls/\(0<=k.2/\k.2.toNat<ls.length)/\ls[k.2.toNat]? = some l/\l∈ls:=by
 grind [Gh.Υ]
theorem Qk.Υ{G:Int}{g:Gh}(h:Qk G g){k:Int×Int}{l:lu}(U:g.Υ k=some l):RJ G l:=by
 obtain⟨ls,q1,_,_,q2⟩:=zm U;exact(h _ ls q1).2 l q2
theorem Qk.G5{G:Int}{g:Gh}(h:Qk G g){A:Int}{ls:List lu}(U:ls.length<=4/\∀l∈ls,RJ G l):Qk G (g.G5 A ls):=λj B q=>by
 have e:(g.G5 A ls).Α j=if j=A then some ls else g.Α j:=rfl;rw[e] at q;by_cases r:j=A
 .grind
 .rw[Ν r] at q;exact h j B q
section
variable {G:Int}{g:Gh}{nd:Nk}{Q:List eU}{i Λ E A st:Int}{m:G3}{S:Ρ}{p:NF}{r:List eU×List hy×Ρ}
theorem Sa.run(h:Sa G g nd i A p)(hr:Xc i A st p.Z r)(M:st=1\/st=2)(hp:p.state=0\/p.state=st)(K:st=1->PM nd A true)(T:st=2->PM nd A false):Sa G g nd i A ⟨st,p.Ι,r.2.1⟩:=by
 obtain⟨ls,r1,r2,r3⟩:=h.G5;refine⟨⟨ls,r1,r2,λ_=>hr.ix.trans (r3 D)⟩,aj,aj,K,T,λo' ho=>?_⟩;obtain⟨o,B,⟨e1,e2⟩,hc⟩:=hr.each o' ho;have q:=h.ow o B;show U6 nd i A st o';rcases hc with e|⟨z,⟨⟨z1,z2⟩,z3,z4⟩|⟨z1,z2⟩⟩
 .rw[e];refine⟨q.was,D,λz=>?_,λa b c=>?_⟩
  .obtain⟨s1,s2,s3⟩:=q.s1 z;omega
  .rcases hp with hp|hp
   .have:=q.s0 hp;omega
   .exact q.s2 (hp.trans a) b c
 .exact⟨D,D,aj,D⟩
 .refine⟨D,D,D,λa _ c=>?_⟩;grind
theorem FP{B : Nk}(hR:Qk G g)(hi:0<=i/\i<G)(h:Sa G g nd i A ⟨st,p.Ι,r.2.1⟩){os:List hy}(hr:Xc i A st os r)(hP:st=1->Pg B i A λs=>s=1):∀y∈r.1,Ph G g B y:=λy Y=>by
 obtain⟨o,ho,rfl,hs⟩:=hr.Q y Y;obtain⟨l1,l2⟩:=h.Υ ho;obtain⟨s1,s2,s3⟩:=(h.ow o ho).s1 hs;obtain⟨ls,r1,_⟩:=h.G5;have M:=(hR.Υ l1).ts;exact⟨hi,M,by show(1:Int)<=5/\(5:Int)<=6;decide,⟨ls,r1,λq=>hD q (by show ¬((5:Int)=1\/(5:Int)=3);decide),λq=>hD q (by show ¬((5:Int)=2\/(5:Int)=4);decide)⟩,λq=>hD q (by show ¬(5:Int)=2;decide),λq=>hD q (by show ¬(5:Int)=3;decide),λq=>hD q (by show ¬(5:Int)=4;decide),λ_=>⟨⟨o.Υ,l1,l2,rfl,Ne.symm s2,rfl,s3⟩,hP s1⟩,λq=>hD q (by show ¬(5:Int)=6;decide)⟩
theorem Fh(hA:PY G g nd Q)(hR:Qk G g)(hi:0<=i/\i<G)(hm:Ph G g nd ⟨Λ,i,m⟩)(hk:m.Δ=3):NB G g nd i (dt i m E (nd i) S).2.1 (dt i m E (nd i) S).1:=by
 obtain⟨ls,r1,r2,_⟩:=hm.G5;have r1:g.Α m.A=some ls:=r1;have r2:i∈bX ls G.toNat:=aj;have adk:PM nd m.A m.yes:=hm.de hk;have hc:=(hA.rg _ _ r1).1;have told:∀B : Nk,(Pg B i m.A λs=>s≠0)->Ph G g B ⟨i,bZ m.A,C9 4 m.A 0 false⟩:=by grind [Wb]
 unfold dt;cases hp:ζ (nd i).Β m.A with
 | none =>
  dsimp only;exact NB.K7 (c:=(nd i).U) aj ⟨aj,aj,λ_=>rfl,aj,aj,aj⟩ (by grind [Pg.set])
 | some p =>
  have hT:=hA.pt i hi _ _ hp;dsimp only;by_cases h0:p.state=0
  .rw[Χ h0,iB];have M:(if m.yes=true then(1:Int) else 2)=1\/(if m.yes=true then(1:Int) else 2)=2:=by split<;>simp
   have K:(if m.yes=true then(1:Int) else 2)=1->PM nd m.A true:=aj;have T:(if m.yes=true then(1:Int) else 2)=2->PM nd m.A false:=aj;generalize (if m.yes=true then(1:Int) else 2)=st at *;have hr:=oK (f:=bV i m.A st p.Ι E) (λo S=>oG o S) p.Z S;have a2:=hT.run hr M (.inl h0) K T;grind [NB.K7,FP,Pg.set]
  .rw[Ν h0];exact NB.same (Gp (told nd ⟨p,hp,h0⟩))
theorem LB(hA:PY G g nd Q)(hR:Qk G g)(hi:0<=i/\i<G):NB G g nd i (K8 i E A (nd i) S).2.1 (K8 i E A (nd i) S).1:=by
 unfold K8;cases hp:ζ (nd i).Β A with
 | none=>exact NB.same jz
 | some p =>
  have hT:=hA.pt i hi _ _ hp;dsimp only;split
  .rename_i B;have hr:=oK (f:=B8 i A p.state p.Ι E) (λo S=>HL o S) p.Z S;have M:=hT.run hr B (.inr rfl) hT.s1 hT.s2;grind [NB.K7,FP,Pg.set]
  .exact NB.same jz
theorem Ki(hA:PY G g nd Q)(hB:∀A x,ζ (nd i).Φ A=some x->g.Α A=some x.Z)(hi:0<=i/\i<G){x:K6}(O:ζ (nd i).Φ A=some x):NB G g nd i { nd i with Φ:=cZ (nd i).Φ A (cD i A x E).2 } (cD i A x E).1:=by
 obtain⟨B,hE⟩:=hA.bg i hi _ _ O;have hG:=hB _ _ O;unfold cD;split
 .rename_i hd;exact NB.J1 (c:=(nd i).μ) B aj hE λ_=>rN D hi hG B hE.O9 (PM.set (y:=x) B hd)
 rename_i hd;split
 .exact NB.J1 (c:=(nd i).μ) B (λx' q=>by rw[O] at q;obtain rfl:=Pr q;exact⟨rfl,rfl,λq=>hD q hd,λ_ q=>q⟩) hE.X6 λ_=>rN D hi hG B hE.O9 (PM.set (y:=x.RY false) B rfl)
 .refine NB.J1 (c:=(nd i).μ) B aj hE λ_ y Y=>?_;obtain⟨k,hk,_,rfl⟩:=ir Y;rw[hE.O9] at hk;exact⟨hi,oa D hk,aj,aj,aj,aj,aj,aj,aj⟩
theorem zD(hA:PY G g nd Q)(hB:∀A x,ζ (nd i).Φ A=some x->g.Α A=some x.Z)(hR:Qk G g)(hi:0<=i/\i<G)(hm:Ph G g nd ⟨Λ,i,m⟩)(hJ:L5 g ⟨Λ,i,m⟩):NB G g nd i (be i Λ m E (nd i) S).2.1 (be i Λ m E (nd i) S).1:=by
 grind [be,Iv,HZ,Fh,If,FH,Lj,NB.same]
end
end
section
open Go.V
def Rq(k:Int):Nat:=if k=1\/k=3\/k=5 then 2 else 1
def wt(y:eU):Nat:=if y.to=y.Λ then 0 else Rq y.ct.Δ
def wS(Q:List eU):Nat:=(Q.map wt).sum
theorem mT(y:eU)(Q:List eU):wS (y::Q)=wt y+wS Q:=by unfold wS;grind
theorem tS(a b:List eU):wS (a++b)=wS a+wS b:=by grind [wS]
theorem tR(y:eU):wS [y]=wt y:=by rw[mT];rfl
theorem va{a b:List eU}(h:a.Perm b):wS a=wS b:=(h.map wt).sum_nat
def OK(i:Int)(gs:List Int):Nat:=(gs.filter λk=>decide (k≠i)).length
theorem ID(i k:Int)(gs:List Int):OK i (k::gs)=(if k=i then 0 else 1)+OK i gs:=by
 grind [OK]
theorem pi{i:Int}{W:List Int}{ct:G3}:∀gs:List Int,wS (ck i gs W ct)<=Rq ct.Δ*OK i gs
 | []=>aC _
 | k::gs=>by
  have ih:=pi (i:=i) (W:=W) (ct:=ct) gs;rw[ID];by_cases h:¬k∈W
  .have e:ck i (k::gs) W ct=⟨i,k,ct⟩::ck i gs W ct:=by
    unfold ck;rw[dE (by simpa using h),aq]
   rw[e,mT,Nat.mul_add];refine cH ?_ ih;unfold wt;dsimp only;split
   .exact aC _
   .rw[ga];exact an _
  .have e:ck i (k::gs) W ct=ck i gs W ct:=by
    unfold ck;rw[List.filter_cons_of_neg (by simpa using h)]
   rw[e,Nat.mul_add];exact aO ih (Nat.le_add_left _ _)
def Sb(i:Int)(N:υ)(A:Int):Nat:=match ζ N.Φ A with
 | some x=>if x.dec=true then 0 else 2*OK i x.iM
 | none=>0
def QA(i:Int)(o:hy):Nat:=if o.state=0/\o.Υ.ts≠i then 2 else 0
def Py(i:Int)(os:List hy):Nat:=(os.map (QA i)).sum
theorem nG(i:Int)(o:hy)(os:List hy):Py i (o::os)=QA i o+Py i os:=by grind [Py]
theorem rn(i:Int):∀os:List hy,Py i os<=2*os.length
 | []=>aC _
 | o::os=>by
  have:=rn i os
  rw[nG,aK];have:QA i o<=2:=by unfold QA;split<;>omega
  omega
def P8(g:Gh)(i:Int)(N:υ)(A:Int):Nat:=match ζ N.Β A with
 | some p=>Py i p.Z
 | none=>Py i (B3 i 0 (cU g A))
def N7(g:Gh)(i:Int)(N:υ)(A:Int):Nat:=Sb i N A+P8 g i N A
def N8(g:Gh)(R:List Int)(i:Int)(N:υ):Nat:=(R.map (N7 g i N)).sum
def nq{g:Gh}{R:List Int}{i a:Int}{N N' : υ}{x y:Nat}(h:∀A,N7 g i N' A<=N7 g i N A)(ha:a∈R)(hd:N7 g i N' a+x<=N7 g i N a+y):N8 g R i N' + x<=N8 g R i N+y:=by
 by_cases e:x<=y
 .have:=kH (l:=R) λA _=>h A
  unfold N8;omega
 .have:=lW (Μ:=x - y) (λA _=>h A) ha D
  unfold N8;omega
theorem ns{g:Gh}{i A c:Int}{N:υ}{x y:K6}(O:ζ N.Φ A=some x)(hg:y.iM=x.iM)(hd:x.dec=true->y.dec=true):∀j,N7 g i { N with μ:=c,Φ:=cZ N.Φ A y } j<=N7 g i N j:=λj=>by
 refine cH ?_ (an _);unfold Sb;show(match ζ (cZ N.Φ A y) j with|some x=>if x.dec=true then 0 else 2*OK i x.iM|none=>0)<=_;rw[cF];by_cases e:j=A
 .rw[Χ e,e,O];dsimp only;rw[hg];by_cases z:y.dec=true
  .rw[Χ z];exact aC _
  .rw[Ν z,Ν λq=>z (hd q)];exact an _
 .rw[Ν e];exact an _
theorem AM{g:Gh}{i A c:Int}{N:υ}{y:K6}:N7 g i { N with μ:=c,Φ:=cZ N.Φ A y } A=(if y.dec=true then 0 else 2*OK i y.iM)+P8 g i N A:=by
 grind [N7,Sb,P8,cF]
def LS{g:Gh}{i A:Int}{N:υ}{x:K6}(O:ζ N.Φ A=some x):N7 g i N A=(if x.dec=true then 0 else 2*OK i x.iM)+P8 g i N A:=by
 unfold N7 Sb;rw[O]
theorem lz{g:Gh}{i A c:Int}{N:υ}{q:NF}(h:Py i q.Z<=P8 g i N A):∀j,N7 g i { N with U:=c,Β:=cZ N.Β A q } j<=N7 g i N j:=λj=>by
 refine cH (an _) ?_;unfold P8;show(match ζ (cZ N.Β A q) j with|some p=>Py i p.Z|none=>Py i (B3 i 0 (cU g j)))<=_;rw[cF];by_cases e:j=A
 .rw[Χ e,e];exact h
 .rw[Ν e];exact an _
theorem sb{g:Gh}{i A c:Int}{N:υ}{q:NF}:N7 g i { N with U:=c,Β:=cZ N.Β A q } A=Sb i N A+Py i q.Z:=by
 grind [N7,P8,Sb,cF]
theorem sE{i A st Ι E:Int}(o:hy)(S:Ρ):wS (bV i A st Ι E o S).1+QA i (bV i A st Ι E o S).2.1<=QA i o:=by
 unfold bV;by_cases h0:o.state≠0
 .rw[Χ h0];show 0+QA i o<=_;omega
 rw[Ν h0];have h0:o.state=0:=D;by_cases K:st=1/\o.Υ.ts≠i
 .grind [wS,QA,wt,Rq]
 rw[Ν K];generalize (if st=2 then o.Υ.fr else o.Υ.to)=t;by_cases T:E6 S 2 E (B2 Ι t o.Υ.am)=true
 .rw[Χ T];have e2:QA i ({ o with state:=2 }:hy)=0:=Ν λq=>hD q.1 (by show ¬(2:Int)=0;decide);show 0+QA i ({ o with state:=2 }:hy)<=_;omega
 .rw[Ν T];show 0+QA i o<=_;omega
theorem Lu{i A st Ι E:Int}(o:hy)(S:Ρ):wS (B8 i A st Ι E o S).1+QA i (B8 i A st Ι E o S).2.1<=QA i o+2:=by
 unfold B8;split
 .grind [tR,wt,Rq]
 .exact aO (sE o S) D
def vg{i:Int}{c:Nat}{f:hy->Ρ->List eU×hy×Ρ}(hf:∀o S,wS (f o S).1+QA i (f o S).2.1<=QA i o+c):∀(os:List hy) (S:Ρ),wS (xs f os S).1+Py i (xs f os S).2.1<=Py i os+c*os.length
 | [],S=>aC _
 | o::os,S=>by
  have h:=hf o S;have q:=vg hf os (f o S).2.2;show wS ((f o S).1++(xs f os (f o S).2.2).1)+Py i ((f o S).2.1::(xs f os (f o S).2.2).2.1)<=_;rw[tS,nG,nG,aK,Nat.mul_add,ga];omega
theorem Lh(i ω:Int)(os:List hy):Py i (os.map (eY ω))=Py i os:=by
 grind [Py,aV,QA,eY]
section
variable {G:Int}{g:Gh}{R:List Int}{nd:Nk}{Q:List eU}{i Λ E A st:Int}{m:G3}{S:Ρ}{p:NF}
theorem Fx{y:eU}(h:y.to=y.Λ):wt y=0:=Χ h
theorem Di{y:eU}:wt y<=Rq y.ct.Δ:=by
 grind [wt]
theorem Je(hR:∀A ls,g.Α A=some ls->A∈R)(hA:PY G g nd Q)(hm:Ph G g nd ⟨Λ,i,m⟩)(hi:0<=i/\i<G)(hJ:L5 g ⟨Λ,i,m⟩):wS (be i Λ m E (nd i) S).1+N8 g R i (be i Λ m E (nd i) S).2.1+(if i=Λ then 0 else 1)<=wt ⟨Λ,i,m⟩+N8 g R i (nd i):=by
 obtain⟨ls,r1,r2,r3⟩:=hm.G5;have r1:g.Α m.A=some ls:=r1;have M:m.A∈R:=hR _ _ r1;have hw:wt ⟨Λ,i,m⟩=if i=Λ then 0 else Rq m.Δ:=rfl
 have done:∀{new:List eU} {N' : υ},(∀A,N7 g i N' A<=N7 g i (nd i) A)->N7 g i N' m.A+(wS new+(if i=Λ then 0 else 1))<=N7 g i (nd i) m.A+wt ⟨Λ,i,m⟩->wS new+N8 g R i N' + (if i=Λ then 0 else 1)<=wt ⟨Λ,i,m⟩+N8 g R i (nd i):=λK T=>by
  have:=nq K M T
  omega
 have adl:1<=Rq m.Δ:=by unfold Rq;split<;>omega
 have nil:∀{N' : υ},(∀A,N7 g i N' A<=N7 g i (nd i) A)->wS []+N8 g R i N' + (if i=Λ then 0 else 1)<=wt ⟨Λ,i,m⟩+N8 g R i (nd i):=λK=>by
  refine done K ?_;grind [wS]
 have B:∀A,N7 g i (nd i) A<=N7 g i (nd i) A:=D;unfold be;by_cases k1:m.Δ=1
 .rw[Χ k1];have hf:Λ=bZ m.A:=aj
  have a2:cU g m.A=m.Z:=by
   have q:g.Α m.A=some m.Z:=hJ.pr k1;unfold cU;rw[q];rfl
  have hv:∀yes,wS [(⟨i,bZ m.A,C9 2 m.A 0 yes⟩:eU)]+(if i=Λ then 0 else 1)<=wt ⟨Λ,i,m⟩:=by grind [tR,wt,C9,Rq]
  unfold eN;cases hp:ζ (nd i).Β m.A with
  | some p=>grind
  | none =>
   have hu:P8 g i (nd i) m.A=Py i (B3 i 0 m.Z):=by unfold P8;rw[hp,a2]
   dsimp only;by_cases K:E6 S 2 E (dy (268435456+(nd i).U) (B3 i 0 m.Z))=true
   .rw[Χ K];have q:=lz (g:=g) (i:=i) (A:=m.A) (c:=(nd i).U+1) (N:=nd i) (q:=⟨0,268435456+(nd i).U,B3 i 0 m.Z⟩) aj;exact done q aj
   .rw[Ν K];have q:=lz (g:=g) (i:=i) (A:=m.A) (c:=(nd i).U) (N:=nd i) (q:=⟨3,268435456+(nd i).U,[]⟩) (aC _);exact done q aj
 rw[Ν k1];by_cases k2:m.Δ=2
 .rw[Χ k2];have a3:Rq m.Δ=1:=by rw[k2];rfl
  unfold em;cases O:ζ (nd i).Φ m.A with
  | none=>exact nil B
  | some x =>
   dsimp only;split
   .exact nil B
   rename_i hd
   have dec:∀y:K6,y.iM=x.iM->y.dec=true->∀t,wS (ck i x.iM [] (C9 3 m.A 0 t))+N8 g R i { nd i with μ:=(nd i).μ,Φ:=cZ (nd i).Φ m.A y }+(if i=Λ then 0 else 1)<=wt ⟨Λ,i,m⟩+N8 g R i (nd i):=λy K T t=>by
    refine done (ns O K λ_=>T) ?_;rw[AM,LS O,Χ T,Ν hd,hw,a3];have:wS (ck i x.iM [] (C9 3 m.A 0 t))<=2*OK i x.iM:=pi x.iM;omega
   split
   .exact dec (x.RY false) rfl rfl _
   split
   .grind [ns]
   .exact dec (({ x with I8:=NX x.I8 Λ }:K6).RY (dB (E<=x.C6))) rfl rfl _
 rw[Ν k2];by_cases k3:m.Δ=3
 .rw[Χ k3];have hf:Λ=bZ m.A:=aj
  have hv:wS [(⟨i,bZ m.A,C9 4 m.A 0 false⟩:eU)]+(if i=Λ then 0 else 1)<=wt ⟨Λ,i,m⟩:=by
   rw[tR,hw,k3,<-hf];by_cases e:i=Λ
   .grind [Fx]
   .grind [C9,Di,Rq]
  unfold dt;cases hp:ζ (nd i).Β m.A with
  | none =>
   have q:=lz (g:=g) (i:=i) (A:=m.A) (c:=(nd i).U) (N:=nd i) (q:=⟨3,0,[]⟩) (aC _);exact done q aj
  | some p =>
   have hu:P8 g i (nd i) m.A=Py i p.Z:=by unfold P8;rw[hp]
   dsimp only;split
   .rw[iB];generalize (if m.yes=true then(1:Int) else 2)=st;have hr:=vg (i:=i) (c:=0) (f:=bV i m.A st p.Ι E) (λo S=>by rw[dx];exact sE o S) p.Z S;rw[Nat.zero_mul,dx] at hr;have q:=lz (g:=g) (i:=i) (A:=m.A) (c:=(nd i).U) (N:=nd i) (q:=⟨st,p.Ι,(xs (bV i m.A st p.Ι E) p.Z S).2.1⟩) aj;refine done q ?_;rw[sb,tS];show Sb i (nd i) m.A+Py i (xs (bV i m.A st p.Ι E) p.Z S).2.1+_<=Sb i (nd i) m.A+P8 g i (nd i) m.A+_;omega
   grind
 rw[Ν k3];by_cases k4:m.Δ=4
 .grind [gc,υ.J1,ns]
 rw[Ν k4];by_cases k5:m.Δ=5
 .rw[Χ k5]
  have hv:wS [(⟨i,Λ,C9 6 m.A m.ω false⟩:eU)]+(if i=Λ then 0 else 1)<=wt ⟨Λ,i,m⟩:=by
   rw[tR,hw,k5];by_cases e:i=Λ
   .grind [Fx]
   .grind [C9,Di,Rq]
  unfold dU;split
  .grind
  split
  .split
   .exact done B (cH (an _) hv)
   grind
  grind
 grind [O4,υ.K7,P8,lz,Lh]
def Ra(g:Gh)(G i A:Int):Nat:=if bZ A=i then 2*OK i (bX (cU g A) G.toNat) else 0
def QV(g:Gh)(i A:Int):Nat:=2*(B3 i 0 (cU g A)).length
theorem Kh(hA:PY G g nd Q)(hB:∀A x,ζ (nd i).Φ A=some x->g.Α A=some x.Z)(hR:∀A ls,g.Α A=some ls->A∈R)(hi:0<=i/\i<G){x:K6}(O:ζ (nd i).Φ A=some x):wS (cD i A x E).1+N8 g R i { nd i with Φ:=cZ (nd i).Φ A (cD i A x E).2 }<=Ra g G i A+N8 g R i (nd i):=by
 obtain⟨M,hE⟩:=hA.bg i hi _ _ O;have hG:=hB _ _ O
 have hu:Ra g G i A=2*OK i x.iM:=by
  unfold Ra cU;rw[Χ M,hG,hE.O9];rfl
 have B:=hR _ _ hG;have T:∀W ct,Rq ct.Δ=2->wS (ck i x.iM W ct)<=2*OK i x.iM:=by grind [pi]
 rw[hu];unfold cD;have same:∀j,N7 g i { nd i with μ:=(nd i).μ,Φ:=cZ (nd i).Φ A x } j<=N7 g i (nd i) j:=ns O rfl λq=>q;split
 .have q:=nq (x:=wS (ck i x.iM x.told (C9 3 A 0 x.F7))) (y:=2*OK i x.iM) same B (cH (same _) (T _ _ rfl));grind
 rename_i hd;split
 .have le:∀j,N7 g i { nd i with μ:=(nd i).μ,Φ:=cZ (nd i).Φ A (x.RY false) } j<=N7 g i (nd i) j:=ns O rfl aj;have q:=nq (x:=wS (ck i x.iM [] (C9 3 A 0 false))) (y:=2*OK i x.iM) le B (cH (le _) (T _ _ rfl));grind
 .have q:=nq (x:=wS (ck i x.iM x.I8 ⟨1,A,0,false,x.Z,[]⟩)) (y:=2*OK i x.iM) same B (cH (same _) (T _ _ rfl));grind
theorem Lz(hA:PY G g nd Q)(hR:∀A ls,g.Α A=some ls->A∈R)(hi:0<=i/\i<G):wS (K8 i E A (nd i) S).1+N8 g R i (K8 i E A (nd i) S).2.1<=QV g i A+N8 g R i (nd i):=by
 unfold K8;cases hp:ζ (nd i).Β A with
 | none =>
  show 0+N8 g R i (nd i)<=_;omega
 | some p =>
  have hT:=hA.pt i hi _ _ hp;obtain⟨ls,r1,r2,r3⟩:=hT.G5;have hu:P8 g i (nd i) A=Py i p.Z:=by unfold P8;rw[hp]
  dsimp only;split
  .rename_i M;have hr:=vg (i:=i) (c:=2) (f:=B8 i A p.state p.Ι E) (λo S=>Lu o S) p.Z S
   have B:p.Z.length=(B3 i 0 ls).length:=by
    have e:=congrArg List.length (r3 D);unfold Rp at e;rw[al,al] at e;exact e
   have hw:QV g i A=2*p.Z.length:=by
    unfold QV cU;rw[r1,B];rfl
   have K:∀(o:hy) (S:Ρ),QA i (B8 i A p.state p.Ι E o S).2.1<=QA i o:=λo S=>by
    unfold B8;split
    .grind
    .have:=sE (i:=i) (A:=A) (st:=p.state) (Ι:=p.Ι) (E:=E) o S
     omega
   have T:∀(os:List hy) (S:Ρ),Py i (xs (B8 i A p.state p.Ι E) os S).2.1<=Py i os:=λos=>by
    induction os with
    | nil=>exact λ_=>an _
    | cons o os ih =>
     grind [xs,nG]
   have le:=lz (g:=g) (i:=i) (A:=A) (c:=(nd i).U) (N:=nd i) (q:=⟨p.state,p.Ι,(xs (B8 i A p.state p.Ι E) p.Z S).2.1⟩) aj
   have q:=nq (x:=wS (xs (B8 i A p.state p.Ι E) p.Z S).1) (y:=QV g i A) le (hR _ _ r1) (by
    rw[sb,hw];show Sb i (nd i) A+Py i (xs (B8 i A p.state p.Ι E) p.Z S).2.1+_<=Sb i (nd i) A+P8 g i (nd i) A+_;omega)
   grind
  .show 0+N8 g R i (nd i)<=_;omega
