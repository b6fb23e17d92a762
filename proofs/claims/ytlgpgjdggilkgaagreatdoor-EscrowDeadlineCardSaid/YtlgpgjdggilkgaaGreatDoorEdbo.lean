/- Lemmas. -/
import Derived.Test.YtlgpgjdggilkgaaGreatDoorEdbn
set_option linter.all false
namespace Go.Proofs.YtlgpgjdggilkgaaGreatDoor
section
open Go.V
abbrev M3:=Int->ω
def OW(nd:M3)(k r:Int)(F9:Int->Prop):Prop:=∃p,ε (nd k).Γ r=some p/\F9 p.state
def Po(nd:M3)(r:Int)(t:Bool):Prop:=∃x,ε (nd (bX r)).Ψ r=some x/\x.dec=true/\x.F4=t
structure O9 (N N' : ω):Prop where
 bg:∀r x,ε N.Ψ r=some x->∃x',ε N'.Ψ r=some x'/\x'.Α=x.Α/\x'.lq=x.lq/\(x.dec=true->x'.dec=true/\x'.F4=x.F4)/\∀k∈x.told,k∈x'.told
 pt:∀r p,ε N.Γ r=some p->∃p',ε N'.Γ r=some p'/\(p'.state=p.state\/p.state=0/\(p'.state=1\/p'.state=2))
 rv:∀k∈N.wk,k∈N'.wk
theorem O9.refl(N:ω):O9 N N:=⟨ah,ah,λk h=>h⟩
def O2(nd:M3)(i:Int)(N:ω):M3:=λj=>if j=i then N else nd j
theorem eA(nd:M3)(i:Int)(N:ω):O2 nd i N i=N:=Ω rfl
theorem fH{nd:M3}{i j:Int}(N:ω)(h:j≠i):O2 nd i N j=nd j:=Ο h
abbrev QY(nd ZG : M3):Prop:=∀j,O9 (nd j) (ZG j)
theorem kD{nd:M3}{i:Int}{N:ω}(h:O9 (nd i) N):QY nd (O2 nd i N):=by grind [eA,fH,O9.refl]
theorem QY.refl(nd:M3):QY nd nd:=λj=>O9.refl _
abbrev VI(F9:Int->Prop):Prop:=∀s s' : Int,F9 s->(s' = s\/s=0/\(s' = 1\/s' = 2))->F9 s'
def WH:VI λs=>s≠3:=D
def XK:VI λs=>s≠0:=D
def WI:VI λs=>s=1:=D
def OW.mono{nd A : M3}{k r:Int}{F9:Int->Prop}(h:OW nd k r F9)(T:QY nd A)(hQ:VI F9):OW A k r F9:=by
 obtain⟨p,I,Q⟩:=h;obtain⟨p',q1,q2⟩:=(T k).pt r p I;exact⟨p',q1,hQ _ _ Q q2⟩
def Po.mono{nd A : M3}{r:Int}{t:Bool}(h:Po nd r t)(T:QY nd A):Po A r t:=by
 obtain⟨x,I,Q,h3⟩:=h;obtain⟨x',q1,_,_,q4,_⟩:=(T _).bg r x I;exact⟨x',q1,(q4 Q).1,(q4 Q).2.trans h3⟩
structure RD (g fJ : Gh):Prop where
 Β:∀r ls,g.Β r=some ls->fJ.Β r=some ls
 Χ:∀k l,g.Χ k=some l->fJ.Χ k=some l
theorem RD.of{g fJ : Gh}(h:fJ.Β=g.Β):RD g fJ:=⟨ah,λk l q=>(lf h k).trans q⟩
def RD.G5{g:Gh}{r:Int}{ls:List x4}(h:g.Β r=none):RD g (g.G5 r ls):=⟨λj l q=>ry h q,λk l q=>kH h q⟩
structure OY (F:Int) (g:Gh) (nd:M3) (y:fK):Prop where
 Ν:0<=y.Ν/\y.Ν<F
 to:0<=y.to/\y.to<F
 kd:1<=y.ct.Ζ/\y.ct.Ζ<=6
 G5:∃ls,g.Β y.ct.r=some ls/\(y.ct.Ζ=1\/y.ct.Ζ=3->y.Ν=bX y.ct.r/\y.to∈bL ls F.toNat)/\(y.ct.Ζ=2\/y.ct.Ζ=4->y.to=bX y.ct.r/\y.Ν∈bL ls F.toNat)
 vo:y.ct.Ζ=2->y.ct.yes=true->OW nd y.Ν y.ct.r λs=>s≠3
 de:y.ct.Ζ=3->Po nd y.ct.r y.ct.yes
 td:y.ct.Ζ=4->OW nd y.Ν y.ct.r λs=>s≠0
 tr:y.ct.Ζ=5->(∃l,g.Χ (y.ct.r,y.ct.ai)=some l/\l.d=y.Ν/\l.ts=y.to/\y.Ν≠y.to/\y.ct.Α=[l]/\y.ct.Μ.length=l.am.length)/\OW nd y.Ν y.ct.r λs=>s=1
 go:y.ct.Ζ=6->(∃l,g.Χ (y.ct.r,y.ct.ai)=some l/\l.d=y.to/\l.ts=y.Ν)/\(y.ct.r,y.ct.ai)∈(nd y.Ν).wk
def OY.mono{F:Int}{g fJ : Gh}{nd A : M3}{y:fK}(h:OY F g nd y)(hg:RD g fJ)(T:QY nd A):OY F fJ A y:=by
 obtain⟨ls,r1,r2⟩:=h.G5;refine⟨h.Ν,h.to,h.kd,⟨ls,hg.Β _ _ r1,r2⟩,λa b=>(h.vo a b).mono T WH,λa=>(h.de a).mono T,λa=>(h.td a).mono T XK,λa=>?_,λa=>?_⟩
 .obtain⟨⟨l,q1,q2⟩,q3⟩:=h.tr a;exact⟨⟨l,hg.Χ _ _ q1,q2⟩,q3.mono T WI⟩
 .obtain⟨⟨l,q1,q2⟩,q3⟩:=h.go a;exact⟨⟨l,hg.Χ _ _ q1,q2⟩,(T _).rv _ q3⟩
structure S6 (F:Int) (nd:M3) (r:Int) (x:K4):Prop where
 Ot:x.lq=bL x.Α F.toNat
 Uz:x.I8.Nodup
 U7:∀k∈x.I8,k∈x.lq/\OW nd k r λs=>s≠3
 UA:∀k∈x.told,OW nd k r λs=>s≠0
 tk:x.dec=true->x.F4=true->∀k∈x.lq,OW nd k r λs=>s≠3
 lt:x.dec=false->x.I8.length<x.lq.length
 t0:x.dec=false->x.F4=false
def S6.mono{F:Int}{nd A : M3}{r:Int}{x:K4}(h:S6 F nd r x)(T:QY nd A):S6 F A r x :=
 ⟨h.Ot,h.Uz,λk hk=>⟨(h.U7 k hk).1,(h.U7 k hk).2.mono T WH⟩,λk hk=>(h.UA k hk).mono T XK,λa b k hk=>(h.tk a b k hk).mono T WH,h.lt,h.t0⟩
def QZ(os:List hD):List (x4×Int):=os.map λo=>(o.Χ,o.ai)
structure UB (nd:M3) (i r st:Int) (o:hD):Prop where
 was:o.state=0\/o.state=1\/o.state=2
 s0:st=0->o.state=0
 s1:o.state=1->st=1/\o.Χ.ts≠i/\o.Μ.length=o.Χ.am.length
 s2:st=1->o.state=2->o.Χ.ts≠i->(r,o.ai)∈(nd o.Χ.ts).wk
def UB.mono{nd A : M3}{i r st:Int}{o:hD}(h:UB nd i r st o)(T:QY nd A):UB A i r st o:=⟨h.was,h.s0,h.s1,λa b c=>(T _).rv _ (h.s2 a b c)⟩
structure RE (F:Int) (g:Gh) (nd:M3) (i r:Int) (p:Nl):Prop where
 G5:∃ls,g.Β r=some ls/\i∈bL ls F.toNat/\(p.state≠3->QZ p.Α=QZ (B6 i 0 ls))
 st:p.state=0\/p.state=1\/p.state=2\/p.state=3
 s3:p.state=3->p.Α=[]
 s1:p.state=1->Po nd r true
 s2:p.state=2->Po nd r false
 ow:∀o∈p.Α,UB nd i r p.state o
def RE.mono{F:Int}{g fJ : Gh}{nd A : M3}{i r:Int}{p:Nl}(h:RE F g nd i r p)(hg:RD g fJ)(T:QY nd A):RE F fJ A i r p:=by
 obtain⟨ls,r1,r2⟩:=h.G5;exact⟨⟨ls,hg.Β _ _ r1,r2⟩,h.st,h.s3,λq=>(h.s1 q).mono T,λq=>(h.s2 q).mono T,λo ho=>(h.ow o ho).mono T⟩
def U8(g:Gh)(nd:M3)(i:Int)(k:Int×Int):Prop:=∃l,g.Χ k=some l/\l.ts=i/\l.d≠i/\OW nd l.d k.1 λs=>s=1
def U8.mono{g fJ : Gh}{nd A : M3}{i:Int}{k:Int×Int}(h:U8 g nd i k)(hg:RD g fJ)(T:QY nd A):U8 fJ A i k:=by
 obtain⟨l,q1,q2,q3,q4⟩:=h;exact⟨l,hg.Χ _ _ q1,q2,q3,q4.mono T WI⟩
structure PA (F:Int) (g:Gh) (nd:M3) (O:List fK):Prop where
 rg:∀r ls,g.Β r=some ls->(0<=bX r/\bX r<F)/\∃x,ε (nd (bX r)).Ψ r=some x/\x.Α=ls
 bg:∀i:Int,0<=i/\i<F->∀r x,ε (nd i).Ψ r=some x->bX r=i/\S6 F nd r x
 pt:∀i:Int,0<=i/\i<F->∀r p,ε (nd i).Γ r=some p->RE F g nd i r p
 rv:∀i:Int,0<=i/\i<F->∀k∈(nd i).wk,U8 g nd i k
 O:∀y∈O,OY F g nd y
def PA.sub{F:Int}{g:Gh}{nd:M3}{O A : List fK}(h:PA F g nd O)(hm:∀y∈A,y∈O):PA F g nd A:=⟨h.rg,h.bg,h.pt,h.rv,λy U=>h.O y (hm y U)⟩
structure Ni (F:Int) (g:Gh) (nd:M3) (i:Int) (N' : ω) (new:List fK):Prop where
 le:O9 (nd i) N'
 bg:∀r x,ε N'.Ψ r=some x->ε (nd i).Ψ r=some x\/(bX r=i/\S6 F (O2 nd i N') r x)
 pt:∀r p,ε N'.Γ r=some p->ε (nd i).Γ r=some p\/RE F g (O2 nd i N') i r p
 rv:∀k∈N'.wk,k∈(nd i).wk\/U8 g (O2 nd i N') i k
 O:∀y∈new,OY F g (O2 nd i N') y
theorem PA.step{F:Int}{g fJ : Gh}{nd:M3}{O cR new:List fK}{i:Int}{N' : ω}(h:PA F g nd O)(hs:Ni F g nd i N' new)(hg:fJ.Β=g.Β)(hr:∀y∈cR,y∈O):PA F fJ (O2 nd i N') (cR++new):=by
 have T:=kD hs.le;have hG:=RD.of hg;have A:∀j,O2 nd i N' j=if j=i then N' else nd j:=λj=>rfl;refine⟨λr ls q=>?_,λj hj r x q=>?_,λj hj r p q=>?_,λj hj k q=>?_,λy U=>?_⟩
 .rw[hg] at q;obtain⟨q1,x,q2,q3⟩:=h.rg r ls q;obtain⟨x',r1,r2,_⟩:=(T _).bg r x q2;grind
 .by_cases e:j=i
  .rw[A,Ω e] at q;rw[e] at hj ⊢;rcases hs.bg r x q with q|q
   .exact⟨(h.bg i hj r x q).1,(h.bg i hj r x q).2.mono T⟩
   .exact q
  .rw[A,Ο e] at q;exact⟨(h.bg j hj r x q).1,(h.bg j hj r x q).2.mono T⟩
 .by_cases e:j=i
  .rw[A,Ω e] at q;rw[e] at hj ⊢;rcases hs.pt r p q with q|q
   .exact(h.pt i hj r p q).mono hG T
   .exact q.mono hG (QY.refl _)
  .rw[A,Ο e] at q;exact(h.pt j hj r p q).mono hG T
 .by_cases e:j=i
  .rw[A,Ω e] at q;rw[e] at hj ⊢;rcases hs.rv k q with q|q
   .exact(h.rv i hj k q).mono hG T
   .exact q.mono hG (QY.refl _)
  .rw[A,Ο e] at q;exact(h.rv j hj k q).mono hG T
 .rcases J4 U with U|U
  .exact(h.O y (hr y U)).mono hG T
  .exact(hs.O y U).mono hG (QY.refl _)
theorem Ni.same{F:Int}{g:Gh}{nd:M3}{i:Int}{new:List fK}(hm:∀y∈new,OY F g nd y):Ni F g nd i (nd i) new :=
 ⟨O9.refl _,ah,ah,ah,λy U=>(hm y U).mono (RD.of rfl) (kD (O9.refl _))⟩
theorem O9.J2{N:ω}{r c:Int}{y:K4}(h:∀x,ε N.Ψ r=some x->y.Α=x.Α/\y.lq=x.lq/\(x.dec=true->y.dec=true/\y.F4=x.F4)/\∀k∈x.told,k∈y.told):O9 N { N with ν:=c,Ψ:=ez N.Ψ r y } :=
 ⟨by grind [cF],ah,λk q=>q⟩
theorem O9.K5{N:ω}{r c:Int}{y:Nl}(h:∀p,ε N.Γ r=some p->y.state=p.state\/p.state=0/\(y.state=1\/y.state=2)):O9 N { N with T:=c,Γ:=ez N.Γ r y } :=
 ⟨ah,by grind [cF],λk q=>q⟩
theorem Ni.J2{F:Int}{g:Gh}{nd:M3}{i r c:Int}{y:K4}{new:List fK}(J:bX r=i)(h:∀x,ε (nd i).Ψ r=some x->y.Α=x.Α/\y.lq=x.lq/\(x.dec=true->y.dec=true/\y.F4=x.F4)/\∀k∈x.told,k∈y.told)(U:S6 F nd r y)(hm:QY nd (O2 nd i { nd i with ν:=c,Ψ:=ez (nd i).Ψ r y })->∀z∈new,OY F g (O2 nd i { nd i with ν:=c,Ψ:=ez (nd i).Ψ r y }) z):Ni F g nd i { nd i with ν:=c,Ψ:=ez (nd i).Ψ r y } new:=by
 have A:=O9.J2 (c:=c) h;refine⟨A,λj x q=>?_,ah,ah,hm (kD A)⟩;have q:ε (ez (nd i).Ψ r y) j=some x:=q;rw[cF] at q;by_cases e:j=r
 .rw[Ω e] at q;obtain rfl:=O3 q;rw[e];exact .inr ⟨J,U.mono (kD A)⟩
 grind
theorem Ni.K5{F:Int}{g:Gh}{nd:M3}{i r c:Int}{y:Nl}{new:List fK}(h:∀p,ε (nd i).Γ r=some p->y.state=p.state\/p.state=0/\(y.state=1\/y.state=2))(U:RE F g nd i r y)(hm:QY nd (O2 nd i { nd i with T:=c,Γ:=ez (nd i).Γ r y })->∀z∈new,OY F g (O2 nd i { nd i with T:=c,Γ:=ez (nd i).Γ r y }) z):Ni F g nd i { nd i with T:=c,Γ:=ez (nd i).Γ r y } new:=by
 have A:=O9.K5 (c:=c) h;refine⟨A,ah,λj p q=>?_,ah,hm (kD A)⟩;have q:ε (ez (nd i).Γ r y) j=some p:=q;rw[cF] at q;by_cases e:j=r
 .rw[Ω e] at q;obtain rfl:=O3 q;rw[e];exact .inr (U.mono (RD.of rfl) (kD A))
 grind
theorem OW.set{nd:M3}{i r c:Int}{y:Nl}{F9:Int->Prop}(h:F9 y.state):OW (O2 nd i { nd i with T:=c,Γ:=ez (nd i).Γ r y }) i r F9 :=
 ⟨y,by rw[eA];show ε (ez (nd i).Γ r y) r=_;rw[cF,Ω rfl],h⟩
theorem Po.set{nd:M3}{i r c:Int}{y:K4}(A:bX r=i)(hd:y.dec=true):Po (O2 nd i { nd i with ν:=c,Ψ:=ez (nd i).Ψ r y }) r y.F4 :=
 ⟨y,by rw[A,eA];show ε (ez (nd i).Ψ r y) r=_;rw[cF,Ω rfl],hd,rfl⟩
theorem VJ{F:Int}{g:Gh}{nd:M3}{i to Ζ r ai:Int}{yes:Bool}{ls:List x4}(hi:0<=i/\i<F)(a2:0<=to/\to<F)(hk:(1<=Ζ/\Ζ<=6)/\Ζ≠5)(hG:g.Β r=some ls)(A:Ζ=1\/Ζ=3->i=bX r/\to∈bL ls F.toNat)(J:Ζ=2\/Ζ=4->to=bX r/\i∈bL ls F.toNat)(vo:Ζ=2->yes=true->OW nd i r λs=>s≠3)(de:Ζ=3->Po nd r yes)(td:Ζ=4->OW nd i r λs=>s≠0)(go:Ζ=6->(∃l,g.Χ (r,ai)=some l/\l.d=to/\l.ts=i)/\(r,ai)∈(nd i).wk):OY F g nd ⟨i,to,D4 Ζ r ai yes⟩ :=
 ⟨hi,a2,hk.1,⟨ls,hG,A,J⟩,vo,de,td,λq=>iJ q hk.2,go⟩
theorem Gj{P:fK->Prop}{a:fK}(h:P a):∀y∈[a],P y:=ah
theorem jw{P:fK->Prop}:∀y∈([]:List fK),P y:=ah
theorem iv{i:Int}{gs W:List Int}{ct:G4}{y:fK}(h:y∈ck i gs W ct):∃k∈gs,k∉W/\y=⟨i,k,ct⟩:=by
 grind [ck]
theorem mc{ls:List x4}{F k:Int}(hs:0<=F)(h:k∈bL ls F.toNat):0<=k/\k<F:=by
 have:=(UW.1 h).1
 omega
theorem RE.Χ{F:Int}{g:Gh}{nd:M3}{i r:Int}{p:Nl}(h:RE F g nd i r p){o:hD}(ho:o∈p.Α):g.Χ (r,o.ai)=some o.Χ/\o.Χ.d=i:=by
 obtain⟨ls,r1,_,r3⟩:=h.G5;have h3:p.state≠3:=λq=>by rw[h.s3 q] at ho;cases ho
 have m:(o.Χ,o.ai)∈QZ (B6 i 0 ls):=by rw[<-r3 h3];exact List.mem_map.2 ⟨o,ho,rfl⟩
 obtain⟨o',A,e⟩:=H8 m;obtain⟨⟨q1,q2⟩,q3,_⟩:=iX A;grind [Gh.Χ]
section
variable {F:Int}{g:Gh}{nd:M3}{O:List fK}{i Ν B:Int}{m:G4}{S:Τ}
theorem Ik(hA:PA F g nd O)(hi:0<=i/\i<F)(hm:OY F g nd ⟨Ν,i,m⟩)(hJ:L4 g ⟨Ν,i,m⟩)(hk:m.Ζ=1):Ni F g nd i (eM i m B (nd i) S).2.1 (eM i m B (nd i) S).1:=by
 obtain⟨ls,r1,r2,_⟩:=hm.G5;have r1:g.Β m.r=some ls:=r1;have r2:=(r2 (.inl hk)).2;have hc:=(hA.rg _ _ r1).1
 have a2:ls=m.Α:=by
  have q:g.Β m.r=some m.Α:=hJ.pr hk;rw[r1] at q;exact ah
 have A:∀J yes,(yes=true->OW J i m.r λs=>s≠3)->OY F g J ⟨i,bX m.r,D4 2 m.r 0 yes⟩:=by grind [VJ]
 unfold eM;cases hp:ε (nd i).Γ m.r with
 | some p =>
  dsimp only;refine Ni.same (Gj (A nd _ λq=>⟨p,hp,?_⟩));grind [bz]
 | none =>
  dsimp only;by_cases I:E6 S 2 B (dx (268435456+(nd i).T) (B6 i 0 m.Α))=true
  .rw[Ω I];refine Ni.K5 (c:=(nd i).T+1) ah ⟨ah,.inl rfl,ah,ah,ah,λo ho=>?_⟩ (by grind [OW.set]);have q:=(iX ho).2.2;exact⟨.inl q,λ_=>q,D,D⟩
  .rw[Ο I];exact Ni.K5 (c:=(nd i).T) ah ⟨ah,ah,λ_=>rfl,ah,ah,ah⟩ ah
theorem BI{l u:List Int}(I:l.Nodup)(Q:∀x∈l,x∈u)(h3:u.length<=l.length):∀x∈u,x∈l:=λx M=>by
 refine Classical.byContradiction λq=>?_
 have:=jn (m:=u) (List.nodup_cons.2 ⟨q,I⟩) λy U=>by
  rcases L7 U with rfl|U
  .exact M
  .exact Q y U
 grind
theorem VK{l:List Int}{a b:Int}:b∈ND l a↔b∈l\/b=a:=by
 grind [ND]
theorem pX{l:List Int}{a:Int}(h:l.Nodup):(ND l a).Nodup:=by
 grind [ND]
theorem rO{A : M3}{r:Int}{gs W ls:List _}{t:Bool}(hs:0<=F)(hi:0<=i/\i<F)(hG:g.Β r=some ls)(J:bX r=i)(a2:gs=bL ls F.toNat)(hd:Po A r t):∀y∈ck i gs W (D4 3 r 0 t),OY F g A y:=by grind [iv,VJ,mc]
def S6.XL{r:Int}{x:K4}(h:S6 F nd r x):S6 F nd r (x.Rw false):=⟨h.Ot,h.Uz,h.U7,h.UA,λ_ q=>(by cases q),λq=>(by cases q),λq=>(by cases q)⟩
theorem HM(hA:PA F g nd O)(hB:∀r x,ε (nd i).Ψ r=some x->g.Β r=some x.Α)(hi:0<=i/\i<F)(hm:OY F g nd ⟨Ν,i,m⟩)(hk:m.Ζ=2):Ni F g nd i (eu i Ν m B (nd i) S).2.1 (eu i Ν m B (nd i) S).1:=by
 obtain⟨ls,r1,_,r3⟩:=hm.G5;have r1:g.Β m.r=some ls:=r1;have r3:Ν∈bL ls F.toNat:=ah;unfold eu;cases M:ε (nd i).Ψ m.r with
 | none=>exact Ni.same jw
 | some x =>
  obtain⟨A,hE⟩:=hA.bg i hi _ _ M;have a5:ls=x.Α:=by have q:=hB _ _ M;rw[r1] at q;exact ah
  have a4:x.lq=bL ls F.toNat:=by rw[a5];exact hE.Ot
  dsimp only;split
  .exact Ni.same jw
  rename_i hd;split
  .exact Ni.J2 (c:=(nd i).ν) A (λx' q=>by rw[M] at q;obtain rfl:=O3 q;exact⟨rfl,rfl,λq=>iJ q hd,λ_ q=>q⟩) hE.XL λ_=>rO D hi r1 A a4 (Po.set (y:=x.Rw false) A rfl)
  rename_i U;have hP:OW nd Ν m.r λs=>s≠3:=hm.vo hk ah
  have a2:∀k∈ND x.I8 Ν,k∈x.lq/\OW nd k m.r λs=>s≠3:=λk hk=>by
   rcases VK.1 hk with hk|rfl
   .exact hE.U7 k hk
   grind
  split
  .rename_i J;exact Ni.J2 (c:=(nd i).ν) A ah ⟨hE.Ot,pX hE.Uz,a2,hE.UA,ah,λ_=>J,hE.t0⟩ ah
  .rename_i J;have a3:=BI (pX hE.Uz) (λk q=>(a2 k q).1) D;exact Ni.J2 (c:=(nd i).ν) A (λx' q=>by rw[M] at q;obtain rfl:=O3 q;exact⟨rfl,rfl,λq=>iJ q hd,λ_ q=>q⟩) ⟨hE.Ot,pX hE.Uz,a2,hE.UA,λ_ _ k hk=>(a2 k (a3 k hk)).2,λq=>(by cases q),λq=>(by cases q)⟩ λ_=>rO D hi r1 A a4 (Po.set (y:=({ x with I8:=ND x.I8 Ν }:K4).Rw (dB (B<=x.C7))) A rfl)
theorem HT(hA:PA F g nd O)(hi:0<=i/\i<F)(hm:OY F g nd ⟨Ν,i,m⟩)(hk:m.Ζ=4):Ni F g nd i (gd Ν m (nd i) S).2.1 (gd Ν m (nd i) S).1:=by
 have hP:OW nd Ν m.r λs=>s≠0:=hm.td hk;unfold gd ω.J2;cases M:ε (nd i).Ψ m.r with
 | none=>exact Ni.same jw
 | some x =>
  obtain⟨A,hE⟩:=hA.bg i hi _ _ M;dsimp only;refine Ni.J2 (c:=(nd i).ν) A (by grind [VK]) ⟨hE.Ot,hE.Uz,hE.U7,λk hk=>?_,hE.tk,hE.lt,hE.t0⟩ ah;rcases VK.1 hk with hk|rfl
  .exact hE.UA k hk
  .exact hP
theorem KP(hA:PA F g nd O)(hi:0<=i/\i<F)(hm:OY F g nd ⟨Ν,i,m⟩)(hk:m.Ζ=6):Ni F g nd i (OI m (nd i) S).2.1 (OI m (nd i) S).1:=by
 obtain⟨⟨l,l1,l2,l3⟩,hr⟩:=hm.go hk;have l1:g.Χ (m.r,m.ai)=some l:=l1;have l3:l.ts=Ν:=l3;have hr:(m.r,m.ai)∈(nd Ν).wk:=hr;unfold OI ω.K5;cases hp:ε (nd i).Γ m.r with
 | none=>exact Ni.same jw
 | some p =>
  have hT:=hA.pt i hi _ _ hp;obtain⟨ls,r1,r2,r3⟩:=hT.G5;dsimp only;refine Ni.K5 (c:=(nd i).T) ah ⟨⟨ls,r1,r2,λq=>?_⟩,hT.st,λq=>by show p.Α.map _=[];rw[hT.s3 q];rfl,hT.s1,hT.s2,λo ho=>?_⟩ ah
  .grind [QZ,aU,eY]
  .obtain⟨a,ha,rfl⟩:=H8 ho;have q:=hT.ow a ha;unfold eY;split
   .rename_i e;obtain⟨s1,s2,_⟩:=q.s1 e.2;refine⟨.inr (.inr rfl),λz=>?_,ah,λ_ _ _=>?_⟩
    .grind
    .have ll:=(hT.Χ ha).1;grind
   .exact q
theorem FD(hA:PA F g nd O)(hi:0<=i/\i<F)(hm:OY F g nd ⟨Ν,i,m⟩)(hk:m.Ζ=5):Ni F g nd i (dS i Ν m B (nd i) S).2.1 (dS i Ν m B (nd i) S).1:=by
 obtain⟨ls,r1,_,_⟩:=hm.G5;have r1:g.Β m.r=some ls:=r1;obtain⟨⟨l,l1,l2,l3,l4,_⟩,hP⟩:=hm.tr hk;have l1:g.Χ (m.r,m.ai)=some l:=l1;have l2:l.d=Ν:=l2;have l3:l.ts=i:=l3;have l4:Ν≠i:=l4;have hP:OW nd Ν m.r λs=>s=1:=hP;have a2:∀A : M3,(m.r,m.ai)∈(A i).wk->OY F g A ⟨i,Ν,D4 6 m.r m.ai false⟩:=λA h=>VJ hi hm.Ν ac r1 D D D (λq=>iJ q ac) (λq=>iJ q ac) ah;unfold dS;split
 .grind [Ni.same]
 split
 .split
  .have J:O9 (nd i) { nd i with wk:=(nd i).wk++[(m.r,m.ai)] }:=⟨ah,ah,ah⟩;refine⟨J,ah,ah,λk q=>?_,by grind [eA]⟩;rcases J4 q with q|q
   .exact .inl q
   .rw[GO q];exact .inr ⟨l,l1,l3,D,by rw[l2];exact hP.mono (kD J) WI⟩
  .exact Ni.same jw
 grind
end
end
section
open Go.V
theorem Mb{S:Τ}{Ζ B:Int}{O:List B1}(h:E6 S Ζ B O=true)(hk:¬(Ζ=4\/Ζ=10\/Ζ=7\/Ζ=9)):(Nf S Ζ B O).length=O.length:=by
 have h0:=kL h;obtain⟨lp,f1,f2,_⟩:=vn h0 hk;unfold Nf ki;rw[Ω h0,f1,List.drop_left,ak,oR f2];rfl
structure Tz (i r st:Int) (o:hD) (Δ:List fK×hD×Τ):Prop where
 Χ:Δ.2.1.Χ=o.Χ
 ix:Δ.2.1.ai=o.ai
 c:Δ.2.1=o\/(o.state=0/\((st=1/\o.Χ.ts≠i)/\Δ.2.1.state=1/\Δ.2.1.Μ.length=o.Χ.am.length\/¬(st=1/\o.Χ.ts≠i)/\Δ.2.1.state=2))
 O:∀y∈Δ.1,y=fI i r Δ.2.1/\Δ.2.1.state=1
 Sk:Δ.2.1.state=1->Δ.2.1=o\/fI i r Δ.2.1∈Δ.1
theorem Tz.same{i r st:Int}{o:hD}{S:Τ}:Tz i r st o ([],o,S):=⟨rfl,rfl,.inl rfl,ah,ah⟩
theorem oC{i r st Κ B:Int}(o:hD)(S:Τ):Tz i r st o (bY i r st Κ B o S):=by
 unfold bY;by_cases h0:o.state≠0
 .rw[Ω h0];exact Tz.same
 rw[Ο h0];have h0:o.state=0:=D;by_cases I:st=1/\o.Χ.ts≠i
 .rw[Ω I];by_cases Q:E6 S 6 B (B5 Κ 0 o.Χ.am)=true
  .rw[Ω Q];refine⟨rfl,rfl,.inr ⟨h0,.inl ⟨I,rfl,?_⟩⟩,ah,ah⟩;grind [B5,Mb]
  .rw[Ο Q];exact Tz.same
 rw[Ο I];generalize (if st=2 then o.Χ.fr else o.Χ.to)=t;by_cases Q:E6 S 2 B (B5 Κ t o.Χ.am)=true
 .rw[Ω Q];exact⟨rfl,rfl,ah,ah,ah⟩
 .rw[Ο Q];exact Tz.same
theorem Hz{i r st Κ B:Int}(o:hD)(S:Τ):Tz i r st o (B9 i r st Κ B o S):=by
 unfold B9;split
 .rename_i h;exact⟨rfl,rfl,.inl rfl,ah,ah⟩
 .exact oC o S
theorem Jm{i r st Κ B:Int}{o:hD}{S:Τ}(h:(B9 i r st Κ B o S).2.1.state=1):fI i r (B9 i r st Κ B o S).2.1∈(B9 i r st Κ B o S).1:=by
 unfold B9 at h ⊢;split
 .grind
 .rename_i q;rw[Ο q] at h;rcases (oC (i:=i) (r:=r) (st:=st) (Κ:=Κ) (B:=B) o S).Sk h with e|e
  .grind
  .exact e
structure WJ (i r st:Int) (os:List hD) (Δ:List fK×List hD×Τ):Prop where
 ix:QZ Δ.2.1=QZ os
 each:∀o'∈Δ.2.1,∃o∈os,(o'.Χ=o.Χ/\o'.ai=o.ai)/\(o' = o\/(o.state=0/\((st=1/\o.Χ.ts≠i)/\o'.state=1/\o'.Μ.length=o.Χ.am.length\/¬(st=1/\o.Χ.ts≠i)/\o'.state=2)))
 O:∀y∈Δ.1,∃o'∈Δ.2.1,y=fI i r o'/\o'.state=1
 Sk:∀o'∈Δ.2.1,o'.state=1->o'∈os\/fI i r o'∈Δ.1
theorem oF{i r st:Int}{f:hD->Τ->List fK×hD×Τ}(hf:∀o S,Tz i r st o (f o S)):∀(os:List hD) (S:Τ),WJ i r st os (B0 f os S)
 | [],S=>⟨rfl,λo ho=>iJ ho aH,λy U=>iJ U aH,λo ho=>iJ ho aH⟩
 | o::os,S=>by
  have h:=hf o S;have q:=oF hf os (f o S).2.2;have e:B0 f (o::os) S=((f o S).1++(B0 f os (f o S).2.2).1,(f o S).2.1::(B0 f os (f o S).2.2).2.1,(B0 f os (f o S).2.2).2.2):=rfl;rw[e];refine⟨?_,λo' ho=>?_,λy U=>?_,λo' ho hs=>?_⟩
  .show((f o S).2.1.Χ,(f o S).2.1.ai)::QZ (B0 f os (f o S).2.2).2.1=(o.Χ,o.ai)::QZ os;rw[h.Χ,h.ix,q.ix]
  .rcases L7 ho with rfl|ho
   .exact⟨o,au,⟨h.Χ,h.ix⟩,h.c⟩
   .obtain⟨a,ha,Δ⟩:=q.each o' ho;grind
  .rcases J4 U with U|U
   .exact⟨_,au,h.O y U⟩
   .obtain⟨a,ha,Δ⟩:=q.O y U;grind
  .rcases L7 ho with rfl|ho
   .rcases h.Sk hs with Δ|Δ
    .grind
    grind
   .rcases q.Sk o' ho hs with Δ|Δ
    .grind
    grind
def yf{i r st Κ B:Int}:∀(os:List hD) (S:Τ),∀o'∈(B0 (B9 i r st Κ B) os S).2.1,o'.state=1->fI i r o'∈(B0 (B9 i r st Κ B) os S).1
 | [],S,o,ho,_=>iJ ho aH
 | o::os,S,o',ho,hs=>by
  rcases L7 ho with rfl|ho
  .exact cx _ (Jm hs)
  .exact cj _ (yf os _ o' ho hs)
structure Rh (F:Int) (l:x4):Prop where
 h:Qb l
 d:0<=l.d/\l.d<F
 ts:Rz F l
 am:∀p∈l.am,p.2<=12
 len:l.am.length<=3
def PX(F:Int)(g:Gh):Prop:=∀r ls,g.Β r=some ls->ls.length<=4/\∀l∈ls,Rh F l
def PX.lg{F:Int}{g:Gh}(h:PX F g):T6 g:=λr ls q l T=>((h r ls q).2 l T).h
theorem zm{g:Gh}{k:Int×Int}{l:x4}(T:g.Χ k=some l):∃ls,g.Β k.1=some ls/\(0<=k.2/\k.2.toNat<ls.length)/\ls[k.2.toNat]? = some l/\l∈ls:=by
 grind [Gh.Χ]
theorem PX.Χ{F:Int}{g:Gh}(h:PX F g){k:Int×Int}{l:x4}(T:g.Χ k=some l):Rh F l:=by
 obtain⟨ls,q1,_,_,q2⟩:=zm T;exact(h _ ls q1).2 l q2
theorem PX.G5{F:Int}{g:Gh}(h:PX F g){r:Int}{ls:List x4}(T:ls.length<=4/\∀l∈ls,Rh F l):PX F (g.G5 r ls):=λj A q=>by
 have e:(g.G5 r ls).Β j=if j=r then some ls else g.Β j:=rfl;rw[e] at q;by_cases Δ:j=r
 .grind
 .rw[Ο Δ] at q;exact h j A q
section
variable {F:Int}{g:Gh}{nd:M3}{O:List fK}{i Ν B r st:Int}{m:G4}{S:Τ}{p:Nl}{Δ:List fK×List hD×Τ}
theorem RE.run(h:RE F g nd i r p)(hr:WJ i r st p.Α Δ)(J:st=1\/st=2)(hp:p.state=0\/p.state=st)(I:st=1->Po nd r true)(Q:st=2->Po nd r false):RE F g nd i r ⟨st,p.Κ,Δ.2.1⟩:=by
 obtain⟨ls,r1,r2,r3⟩:=h.G5;refine⟨⟨ls,r1,r2,λ_=>hr.ix.trans (r3 D)⟩,ah,ah,I,Q,λo' ho=>?_⟩;obtain⟨o,A,⟨e1,e2⟩,hc⟩:=hr.each o' ho;have q:=h.ow o A;show UB nd i r st o';rcases hc with e|⟨z,⟨⟨z1,z2⟩,z3,z4⟩|⟨z1,z2⟩⟩
 .rw[e];refine⟨q.was,D,λz=>?_,λa b c=>?_⟩
  .obtain⟨s1,s2,s3⟩:=q.s1 z;omega
  .rcases hp with hp|hp
   .have:=q.s0 hp;omega
   .exact q.s2 (hp.trans a) b c
 .exact⟨D,D,ah,D⟩
 .refine⟨D,D,D,λa _ c=>?_⟩;grind
theorem FK{A : M3}(hR:PX F g)(hi:0<=i/\i<F)(h:RE F g nd i r ⟨st,p.Κ,Δ.2.1⟩){os:List hD}(hr:WJ i r st os Δ)(hP:st=1->OW A i r λs=>s=1):∀y∈Δ.1,OY F g A y:=λy U=>by
 obtain⟨o,ho,rfl,hs⟩:=hr.O y U;obtain⟨l1,l2⟩:=h.Χ ho;obtain⟨s1,s2,s3⟩:=(h.ow o ho).s1 hs;obtain⟨ls,r1,_⟩:=h.G5;have J:=(hR.Χ l1).ts;exact⟨hi,J,by show(1:Int)<=5/\(5:Int)<=6;decide,⟨ls,r1,λq=>iJ q (by show ¬((5:Int)=1\/(5:Int)=3);decide),λq=>iJ q (by show ¬((5:Int)=2\/(5:Int)=4);decide)⟩,λq=>iJ q (by show ¬(5:Int)=2;decide),λq=>iJ q (by show ¬(5:Int)=3;decide),λq=>iJ q (by show ¬(5:Int)=4;decide),λ_=>⟨⟨o.Χ,l1,l2,rfl,Ne.symm s2,rfl,s3⟩,hP s1⟩,λq=>iJ q (by show ¬(5:Int)=6;decide)⟩
theorem Fd(hA:PA F g nd O)(hR:PX F g)(hi:0<=i/\i<F)(hm:OY F g nd ⟨Ν,i,m⟩)(hk:m.Ζ=3):Ni F g nd i (dq i m B (nd i) S).2.1 (dq i m B (nd i) S).1:=by
 obtain⟨ls,r1,r2,_⟩:=hm.G5;have r1:g.Β m.r=some ls:=r1;have r2:i∈bL ls F.toNat:=ah;have ada:Po nd m.r m.yes:=hm.de hk;have hc:=(hA.rg _ _ r1).1;have told:∀A : M3,(OW A i m.r λs=>s≠0)->OY F g A ⟨i,bX m.r,D4 4 m.r 0 false⟩:=by grind [VJ]
 unfold dq;cases hp:ε (nd i).Γ m.r with
 | none =>
  dsimp only;exact Ni.K5 (c:=(nd i).T) ah ⟨ah,ah,λ_=>rfl,ah,ah,ah⟩ (by grind [OW.set])
 | some p =>
  have hT:=hA.pt i hi _ _ hp;dsimp only;by_cases h0:p.state=0
  .rw[Ω h0,iC];have J:(if m.yes=true then(1:Int) else 2)=1\/(if m.yes=true then(1:Int) else 2)=2:=by split<;>simp
   have I:(if m.yes=true then(1:Int) else 2)=1->Po nd m.r true:=ah;have Q:(if m.yes=true then(1:Int) else 2)=2->Po nd m.r false:=ah;generalize (if m.yes=true then(1:Int) else 2)=st at *;have hr:=oF (f:=bY i m.r st p.Κ B) (λo S=>oC o S) p.Α S;have a2:=hT.run hr J (.inl h0) I Q;grind [Ni.K5,FK,OW.set]
  .rw[Ο h0];exact Ni.same (Gj (told nd ⟨p,hp,h0⟩))
theorem Lh(hA:PA F g nd O)(hR:PX F g)(hi:0<=i/\i<F):Ni F g nd i (K7 i B r (nd i) S).2.1 (K7 i B r (nd i) S).1:=by
 unfold K7;cases hp:ε (nd i).Γ r with
 | none=>exact Ni.same jw
 | some p =>
  have hT:=hA.pt i hi _ _ hp;dsimp only;split
  .rename_i A;have hr:=oF (f:=B9 i r p.state p.Κ B) (λo S=>Hz o S) p.Α S;have J:=hT.run hr A (.inr rfl) hT.s1 hT.s2;grind [Ni.K5,FK,OW.set]
  .exact Ni.same jw
theorem JS(hA:PA F g nd O)(hB:∀r x,ε (nd i).Ψ r=some x->g.Β r=some x.Α)(hi:0<=i/\i<F){x:K4}(M:ε (nd i).Ψ r=some x):Ni F g nd i { nd i with Ψ:=ez (nd i).Ψ r (cD i r x B).2 } (cD i r x B).1:=by
 obtain⟨A,hE⟩:=hA.bg i hi _ _ M;have hG:=hB _ _ M;unfold cD;split
 .rename_i hd;exact Ni.J2 (c:=(nd i).ν) A ah hE λ_=>rO D hi hG A hE.Ot (Po.set (y:=x) A hd)
 rename_i hd;split
 .exact Ni.J2 (c:=(nd i).ν) A (λx' q=>by rw[M] at q;obtain rfl:=O3 q;exact⟨rfl,rfl,λq=>iJ q hd,λ_ q=>q⟩) hE.XL λ_=>rO D hi hG A hE.Ot (Po.set (y:=x.Rw false) A rfl)
 .refine Ni.J2 (c:=(nd i).ν) A ah hE λ_ y U=>?_;obtain⟨k,hk,_,rfl⟩:=iv U;rw[hE.Ot] at hk;exact⟨hi,mc D hk,ah,ah,ah,ah,ah,ah,ah⟩
theorem zC(hA:PA F g nd O)(hB:∀r x,ε (nd i).Ψ r=some x->g.Β r=some x.Α)(hR:PX F g)(hi:0<=i/\i<F)(hm:OY F g nd ⟨Ν,i,m⟩)(hJ:L4 g ⟨Ν,i,m⟩):Ni F g nd i (aX i Ν m B (nd i) S).2.1 (aX i Ν m B (nd i) S).1:=by
 grind [aX,Ik,HM,Fd,HT,FD,KP,Ni.same]
end
end
section
open Go.V
def Q0(k:Int):Nat:=if k=1\/k=3\/k=5 then 2 else 1
def wt(y:fK):Nat:=if y.to=y.Ν then 0 else Q0 y.ct.Ζ
def wS(O:List fK):Nat:=(O.map wt).sum
theorem mP(y:fK)(O:List fK):wS (y::O)=wt y+wS O:=by unfold wS;grind
theorem tU(a b:List fK):wS (a++b)=wS a+wS b:=by grind [wS]
theorem tT(y:fK):wS [y]=wt y:=by rw[mP];rfl
theorem ve{a b:List fK}(h:a.Perm b):wS a=wS b:=(h.map wt).sum_nat
def Om(i:Int)(gs:List Int):Nat:=(gs.filter λk=>decide (k≠i)).length
theorem It(i k:Int)(gs:List Int):Om i (k::gs)=(if k=i then 0 else 1)+Om i gs:=by
 grind [Om]
theorem oY{i:Int}{W:List Int}{ct:G4}:∀gs:List Int,wS (ck i gs W ct)<=Q0 ct.Ζ*Om i gs
 | []=>aD _
 | k::gs=>by
  have ih:=oY (i:=i) (W:=W) (ct:=ct) gs;rw[It];by_cases h:¬k∈W
  .have e:ck i (k::gs) W ct=⟨i,k,ct⟩::ck i gs W ct:=by
    unfold ck;rw[dD (by simpa using h),al]
   rw[e,mP,Nat.mul_add];refine cH ?_ ih;unfold wt;dsimp only;split
   .exact aD _
   .rw[gc];exact ax _
  .have e:ck i (k::gs) W ct=ck i gs W ct:=by
    unfold ck;rw[List.filter_cons_of_neg (by simpa using h)]
   rw[e,Nat.mul_add];exact aO ih (Nat.le_add_left _ _)
def RF(i:Int)(N:ω)(r:Int):Nat:=match ε N.Ψ r with
 | some x=>if x.dec=true then 0 else 2*Om i x.lq
 | none=>0
def Qc(i:Int)(o:hD):Nat:=if o.state=0/\o.Χ.ts≠i then 2 else 0
def Pb(i:Int)(os:List hD):Nat:=(os.map (Qc i)).sum
theorem nD(i:Int)(o:hD)(os:List hD):Pb i (o::os)=Qc i o+Pb i os:=by grind [Pb]
theorem ro(i:Int):∀os:List hD,Pb i os<=2*os.length
 | []=>aD _
 | o::os=>by
  have:=ro i os
  rw[nD,aL];have:Qc i o<=2:=by unfold Qc;split<;>omega
  omega
def PN(g:Gh)(i:Int)(N:ω)(r:Int):Nat:=match ε N.Γ r with
 | some p=>Pb i p.Α
 | none=>Pb i (B6 i 0 (cV g r))
def NO(g:Gh)(i:Int)(N:ω)(r:Int):Nat:=RF i N r+PN g i N r
def NP(g:Gh)(R:List Int)(i:Int)(N:ω):Nat:=(R.map (NO g i N)).sum
def nj{g:Gh}{R:List Int}{i a:Int}{N N' : ω}{x y:Nat}(h:∀r,NO g i N' r<=NO g i N r)(ha:a∈R)(hd:NO g i N' a+x<=NO g i N a+y):NP g R i N' + x<=NP g R i N+y:=by
 by_cases e:x<=y
 .have:=kE (l:=R) λr _=>h r
  unfold NP;omega
 .have:=lU (Ξ:=x - y) (λr _=>h r) ha D
  unfold NP;omega
theorem nl{g:Gh}{i r c:Int}{N:ω}{x y:K4}(M:ε N.Ψ r=some x)(hg:y.lq=x.lq)(hd:x.dec=true->y.dec=true):∀j,NO g i { N with ν:=c,Ψ:=ez N.Ψ r y } j<=NO g i N j:=λj=>by
 refine cH ?_ (ax _);unfold RF;show(match ε (ez N.Ψ r y) j with|some x=>if x.dec=true then 0 else 2*Om i x.lq|none=>0)<=_;rw[cF];by_cases e:j=r
 .rw[Ω e,e,M];dsimp only;rw[hg];by_cases z:y.dec=true
  .rw[Ω z];exact aD _
  .rw[Ο z,Ο λq=>z (hd q)];exact ax _
 .rw[Ο e];exact ax _
theorem AI{g:Gh}{i r c:Int}{N:ω}{y:K4}:NO g i { N with ν:=c,Ψ:=ez N.Ψ r y } r=(if y.dec=true then 0 else 2*Om i y.lq)+PN g i N r:=by
 grind [NO,RF,PN,cF]
def LB{g:Gh}{i r:Int}{N:ω}{x:K4}(M:ε N.Ψ r=some x):NO g i N r=(if x.dec=true then 0 else 2*Om i x.lq)+PN g i N r:=by
 unfold NO RF;rw[M]
theorem lw{g:Gh}{i r c:Int}{N:ω}{q:Nl}(h:Pb i q.Α<=PN g i N r):∀j,NO g i { N with T:=c,Γ:=ez N.Γ r q } j<=NO g i N j:=λj=>by
 refine cH (ax _) ?_;unfold PN;show(match ε (ez N.Γ r q) j with|some p=>Pb i p.Α|none=>Pb i (B6 i 0 (cV g j)))<=_;rw[cF];by_cases e:j=r
 .rw[Ω e,e];exact h
 .rw[Ο e];exact ax _
theorem rZ{g:Gh}{i r c:Int}{N:ω}{q:Nl}:NO g i { N with T:=c,Γ:=ez N.Γ r q } r=RF i N r+Pb i q.Α:=by
 grind [NO,PN,RF,cF]
theorem sE{i r st Κ B:Int}(o:hD)(S:Τ):wS (bY i r st Κ B o S).1+Qc i (bY i r st Κ B o S).2.1<=Qc i o:=by
 unfold bY;by_cases h0:o.state≠0
 .rw[Ω h0];show 0+Qc i o<=_;omega
 rw[Ο h0];have h0:o.state=0:=D;by_cases I:st=1/\o.Χ.ts≠i
 .grind [wS,Qc,wt,Q0]
 rw[Ο I];generalize (if st=2 then o.Χ.fr else o.Χ.to)=t;by_cases Q:E6 S 2 B (B5 Κ t o.Χ.am)=true
 .rw[Ω Q];have e2:Qc i ({ o with state:=2 }:hD)=0:=Ο λq=>iJ q.1 (by show ¬(2:Int)=0;decide);show 0+Qc i ({ o with state:=2 }:hD)<=_;omega
 .rw[Ο Q];show 0+Qc i o<=_;omega
theorem KZ{i r st Κ B:Int}(o:hD)(S:Τ):wS (B9 i r st Κ B o S).1+Qc i (B9 i r st Κ B o S).2.1<=Qc i o+2:=by
 unfold B9;split
 .grind [tT,wt,Q0]
 .exact aO (sE o S) D
def vl{i:Int}{c:Nat}{f:hD->Τ->List fK×hD×Τ}(hf:∀o S,wS (f o S).1+Qc i (f o S).2.1<=Qc i o+c):∀(os:List hD) (S:Τ),wS (B0 f os S).1+Pb i (B0 f os S).2.1<=Pb i os+c*os.length
 | [],S=>aD _
 | o::os,S=>by
  have h:=hf o S;have q:=vl hf os (f o S).2.2;show wS ((f o S).1++(B0 f os (f o S).2.2).1)+Pb i ((f o S).2.1::(B0 f os (f o S).2.2).2.1)<=_;rw[tU,nD,nD,aL,Nat.mul_add,gc];omega
theorem KN(i ai:Int)(os:List hD):Pb i (os.map (eY ai))=Pb i os:=by
 grind [Pb,aU,Qc,eY]
section
variable {F:Int}{g:Gh}{R:List Int}{nd:M3}{O:List fK}{i Ν B r st:Int}{m:G4}{S:Τ}{p:Nl}
theorem Ft{y:fK}(h:y.to=y.Ν):wt y=0:=Ω h
theorem Df{y:fK}:wt y<=Q0 y.ct.Ζ:=by
 grind [wt]
theorem IT(hR:∀r ls,g.Β r=some ls->r∈R)(hA:PA F g nd O)(hm:OY F g nd ⟨Ν,i,m⟩)(hi:0<=i/\i<F)(hJ:L4 g ⟨Ν,i,m⟩):wS (aX i Ν m B (nd i) S).1+NP g R i (aX i Ν m B (nd i) S).2.1+(if i=Ν then 0 else 1)<=wt ⟨Ν,i,m⟩+NP g R i (nd i):=by
 obtain⟨ls,r1,r2,r3⟩:=hm.G5;have r1:g.Β m.r=some ls:=r1;have J:m.r∈R:=hR _ _ r1;have hw:wt ⟨Ν,i,m⟩=if i=Ν then 0 else Q0 m.Ζ:=rfl
 have done:∀{new:List fK} {N' : ω},(∀r,NO g i N' r<=NO g i (nd i) r)->NO g i N' m.r+(wS new+(if i=Ν then 0 else 1))<=NO g i (nd i) m.r+wt ⟨Ν,i,m⟩->wS new+NP g R i N' + (if i=Ν then 0 else 1)<=wt ⟨Ν,i,m⟩+NP g R i (nd i):=λI Q=>by
  have:=nj I J Q
  omega
 have adb:1<=Q0 m.Ζ:=by unfold Q0;split<;>omega
 have nil:∀{N' : ω},(∀r,NO g i N' r<=NO g i (nd i) r)->wS []+NP g R i N' + (if i=Ν then 0 else 1)<=wt ⟨Ν,i,m⟩+NP g R i (nd i):=λI=>by
  refine done I ?_;grind [wS]
 have A:∀r,NO g i (nd i) r<=NO g i (nd i) r:=D;unfold aX;by_cases k1:m.Ζ=1
 .rw[Ω k1];have hf:Ν=bX m.r:=ah
  have a2:cV g m.r=m.Α:=by
   have q:g.Β m.r=some m.Α:=hJ.pr k1;unfold cV;rw[q];rfl
  have hv:∀yes,wS [(⟨i,bX m.r,D4 2 m.r 0 yes⟩:fK)]+(if i=Ν then 0 else 1)<=wt ⟨Ν,i,m⟩:=by grind [tT,wt,D4,Q0]
  unfold eM;cases hp:ε (nd i).Γ m.r with
  | some p=>grind
  | none =>
   have hu:PN g i (nd i) m.r=Pb i (B6 i 0 m.Α):=by unfold PN;rw[hp,a2]
   dsimp only;by_cases I:E6 S 2 B (dx (268435456+(nd i).T) (B6 i 0 m.Α))=true
   .rw[Ω I];have q:=lw (g:=g) (i:=i) (r:=m.r) (c:=(nd i).T+1) (N:=nd i) (q:=⟨0,268435456+(nd i).T,B6 i 0 m.Α⟩) ah;exact done q ah
   .rw[Ο I];have q:=lw (g:=g) (i:=i) (r:=m.r) (c:=(nd i).T) (N:=nd i) (q:=⟨3,268435456+(nd i).T,[]⟩) (aD _);exact done q ah
 rw[Ο k1];by_cases k2:m.Ζ=2
 .rw[Ω k2];have a3:Q0 m.Ζ=1:=by rw[k2];rfl
  unfold eu;cases M:ε (nd i).Ψ m.r with
  | none=>exact nil A
  | some x =>
   dsimp only;split
   .exact nil A
   rename_i hd
   have dec:∀y:K4,y.lq=x.lq->y.dec=true->∀t,wS (ck i x.lq [] (D4 3 m.r 0 t))+NP g R i { nd i with ν:=(nd i).ν,Ψ:=ez (nd i).Ψ m.r y }+(if i=Ν then 0 else 1)<=wt ⟨Ν,i,m⟩+NP g R i (nd i):=λy I Q t=>by
    refine done (nl M I λ_=>Q) ?_;rw[AI,LB M,Ω Q,Ο hd,hw,a3];have:wS (ck i x.lq [] (D4 3 m.r 0 t))<=2*Om i x.lq:=oY x.lq;omega
   split
   .exact dec (x.Rw false) rfl rfl _
   split
   .grind [nl]
   .exact dec (({ x with I8:=ND x.I8 Ν }:K4).Rw (dB (B<=x.C7))) rfl rfl _
 rw[Ο k2];by_cases k3:m.Ζ=3
 .rw[Ω k3];have hf:Ν=bX m.r:=ah
  have hv:wS [(⟨i,bX m.r,D4 4 m.r 0 false⟩:fK)]+(if i=Ν then 0 else 1)<=wt ⟨Ν,i,m⟩:=by
   rw[tT,hw,k3,<-hf];by_cases e:i=Ν
   .grind [Ft]
   .grind [D4,Df,Q0]
  unfold dq;cases hp:ε (nd i).Γ m.r with
  | none =>
   have q:=lw (g:=g) (i:=i) (r:=m.r) (c:=(nd i).T) (N:=nd i) (q:=⟨3,0,[]⟩) (aD _);exact done q ah
  | some p =>
   have hu:PN g i (nd i) m.r=Pb i p.Α:=by unfold PN;rw[hp]
   dsimp only;split
   .rw[iC];generalize (if m.yes=true then(1:Int) else 2)=st;have hr:=vl (i:=i) (c:=0) (f:=bY i m.r st p.Κ B) (λo S=>by rw[dw];exact sE o S) p.Α S;rw[Nat.zero_mul,dw] at hr;have q:=lw (g:=g) (i:=i) (r:=m.r) (c:=(nd i).T) (N:=nd i) (q:=⟨st,p.Κ,(B0 (bY i m.r st p.Κ B) p.Α S).2.1⟩) ah;refine done q ?_;rw[rZ,tU];show RF i (nd i) m.r+Pb i (B0 (bY i m.r st p.Κ B) p.Α S).2.1+_<=RF i (nd i) m.r+PN g i (nd i) m.r+_;omega
   grind
 rw[Ο k3];by_cases k4:m.Ζ=4
 .grind [gd,ω.J2,nl]
 rw[Ο k4];by_cases k5:m.Ζ=5
 .rw[Ω k5]
  have hv:wS [(⟨i,Ν,D4 6 m.r m.ai false⟩:fK)]+(if i=Ν then 0 else 1)<=wt ⟨Ν,i,m⟩:=by
   rw[tT,hw,k5];by_cases e:i=Ν
   .grind [Ft]
   .grind [D4,Df,Q0]
  unfold dS;split
  .grind
  split
  .split
   .exact done A (cH (ax _) hv)
   grind
  grind
 grind [OI,ω.K5,PN,lw,KN]
def QI(g:Gh)(F i r:Int):Nat:=if bX r=i then 2*Om i (bL (cV g r) F.toNat) else 0
def Qu(g:Gh)(i r:Int):Nat:=2*(B6 i 0 (cV g r)).length
theorem JR(hA:PA F g nd O)(hB:∀r x,ε (nd i).Ψ r=some x->g.Β r=some x.Α)(hR:∀r ls,g.Β r=some ls->r∈R)(hi:0<=i/\i<F){x:K4}(M:ε (nd i).Ψ r=some x):wS (cD i r x B).1+NP g R i { nd i with Ψ:=ez (nd i).Ψ r (cD i r x B).2 }<=QI g F i r+NP g R i (nd i):=by
 obtain⟨J,hE⟩:=hA.bg i hi _ _ M;have hG:=hB _ _ M
 have hu:QI g F i r=2*Om i x.lq:=by
  unfold QI cV;rw[Ω J,hG,hE.Ot];rfl
 have A:=hR _ _ hG;have Q:∀W ct,Q0 ct.Ζ=2->wS (ck i x.lq W ct)<=2*Om i x.lq:=by grind [oY]
 rw[hu];unfold cD;have same:∀j,NO g i { nd i with ν:=(nd i).ν,Ψ:=ez (nd i).Ψ r x } j<=NO g i (nd i) j:=nl M rfl λq=>q;split
 .have q:=nj (x:=wS (ck i x.lq x.told (D4 3 r 0 x.F4))) (y:=2*Om i x.lq) same A (cH (same _) (Q _ _ rfl));grind
 rename_i hd;split
 .have le:∀j,NO g i { nd i with ν:=(nd i).ν,Ψ:=ez (nd i).Ψ r (x.Rw false) } j<=NO g i (nd i) j:=nl M rfl ah;have q:=nj (x:=wS (ck i x.lq [] (D4 3 r 0 false))) (y:=2*Om i x.lq) le A (cH (le _) (Q _ _ rfl));grind
 .have q:=nj (x:=wS (ck i x.lq x.I8 ⟨1,r,0,false,x.Α,[]⟩)) (y:=2*Om i x.lq) same A (cH (same _) (Q _ _ rfl));grind
theorem Le(hA:PA F g nd O)(hR:∀r ls,g.Β r=some ls->r∈R)(hi:0<=i/\i<F):wS (K7 i B r (nd i) S).1+NP g R i (K7 i B r (nd i) S).2.1<=Qu g i r+NP g R i (nd i):=by
 unfold K7;cases hp:ε (nd i).Γ r with
 | none =>
  show 0+NP g R i (nd i)<=_;omega
 | some p =>
  have hT:=hA.pt i hi _ _ hp;obtain⟨ls,r1,r2,r3⟩:=hT.G5;have hu:PN g i (nd i) r=Pb i p.Α:=by unfold PN;rw[hp]
  dsimp only;split
  .rename_i J;have hr:=vl (i:=i) (c:=2) (f:=B9 i r p.state p.Κ B) (λo S=>KZ o S) p.Α S
   have A:p.Α.length=(B6 i 0 ls).length:=by
    have e:=congrArg List.length (r3 D);unfold QZ at e;rw[ak,ak] at e;exact e
   have hw:Qu g i r=2*p.Α.length:=by
    unfold Qu cV;rw[r1,A];rfl
   have I:∀(o:hD) (S:Τ),Qc i (B9 i r p.state p.Κ B o S).2.1<=Qc i o:=λo S=>by
    unfold B9;split
    .grind
    .have:=sE (i:=i) (r:=r) (st:=p.state) (Κ:=p.Κ) (B:=B) o S
     omega
   have Q:∀(os:List hD) (S:Τ),Pb i (B0 (B9 i r p.state p.Κ B) os S).2.1<=Pb i os:=λos=>by
    induction os with
    | nil=>exact λ_=>ax _
    | cons o os ih =>
     grind [B0,nD]
   have le:=lw (g:=g) (i:=i) (r:=r) (c:=(nd i).T) (N:=nd i) (q:=⟨p.state,p.Κ,(B0 (B9 i r p.state p.Κ B) p.Α S).2.1⟩) ah
   have q:=nj (x:=wS (B0 (B9 i r p.state p.Κ B) p.Α S).1) (y:=Qu g i r) le (hR _ _ r1) (by
    rw[rZ,hw];show RF i (nd i) r+Pb i (B0 (B9 i r p.state p.Κ B) p.Α S).2.1+_<=RF i (nd i) r+PN g i (nd i) r+_;omega)
   grind
  .show 0+NP g R i (nd i)<=_;omega
