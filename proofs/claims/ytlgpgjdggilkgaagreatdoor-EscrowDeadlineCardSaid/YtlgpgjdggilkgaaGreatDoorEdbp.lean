/- Lemmas. -/
import Derived.Test.YtlgpgjdggilkgaaGreatDoorEdbo
set_option linter.all false
namespace Go.Proofs.YtlgpgjdggilkgaaGreatDoor
section
open Go.V
theorem nT{α:Type}{f:α->Int}{l l' : List α}(h:l.Perm l'):(l.map f).sum=(l'.map f).sum:=by
 induction h with
 | nil=>rfl
 | cons x _ ih=>grind
 | swap x y l=>grind
 | trans _ _ I Q=>omega
def QJ(i st a x:Int)(o:hD):Int:=(if ¬(st=2/\o.state=2)/\a=o.Χ.fr then - Oz x o.Χ.am else 0)+(if(st=1/\o.state=2/\o.Χ.ts=i)/\a=o.Χ.to then Oz x o.Χ.am else 0)
def jm(i st a x:Int)(os:List hD):Int:=(os.map (QJ i st a x)).sum
theorem mF(i st a x:Int)(o:hD)(os:List hD):jm i st a x (o::os)=QJ i st a x o+jm i st a x os:=by grind [jm]
def dQ(i a x:Int)(p:Nl):Int:=jm i p.state a x p.Α+(if a=p.Κ then gx x p.Α else 0)
def dP(i a x:Int)(p:Int×Nl):Int:=dQ i a x p.2
def dR(g:Gh)(a x:Int)(k:Int×Int):Int:=match g.Χ k with
 | some l=>if a=l.to then Oz x l.am else 0
 | none=>0
def Pc(g:Gh)(i:Int)(N:ω)(a x:Int):Int:=(N.Γ.map (dP i a x)).sum+(N.wk.map (dR g a x)).sum
def zI{g fJ : Gh}(h:fJ.Β=g.Β)(i:Int)(N:ω)(a x:Int):Pc fJ i N a x=Pc g i N a x:=by
 unfold Pc;rw[show dR fJ a x=dR g a x from funext λk=>by unfold dR;rw[lf h]]
theorem tu{g:Gh}{i r c a x:Int}{N:ω}{p q:Nl}(hn:(N.Γ.map (·.1)).Nodup)(h:ε N.Γ r=some p):Pc g i { N with T:=c,Γ:=ez N.Γ r q } a x=Pc g i N a x - dQ i a x p+dQ i a x q:=by
 have I:=nT (f:=dP i a x) (qT (k:=r) (a:=q) hn);have Q:=nT (f:=dP i a x) (me hn h);grind [Pc,dP]
theorem tv{g:Gh}{i r c a x:Int}{N:ω}{q:Nl}(h:ε N.Γ r=none):Pc g i { N with T:=c,Γ:=ez N.Γ r q } a x=Pc g i N a x+dQ i a x q:=by
 grind [Pc,pM,dP]
def SG(b0:Int->Int->Int)(g:Gh)(i:Int)(N:ω)(S:Τ):Prop:=∀a x,a≠0->aW (S.ξ a x)=b0 a x+Pc g i N a x
theorem zy{i a x Κ:Int}:∀{os:List hD},(∀o∈os,o.state=0)->gE a x (dx Κ os) - NU a x (dx Κ os)=jm i 0 a x os+(if a=Κ then gx x os else 0)
 | [],_=>by
  show(0:Int) - 0=0+(if a=Κ then 0 else 0);omega
 | o::os,h=>by
  have Q:=h o ah;have ih:=zy (i:=i) (a:=a) (x:=x) (Κ:=Κ) (os:=os) ah;have e:dx Κ (o::os)=B5 o.Χ.fr Κ o.Χ.am++dx Κ os:=by unfold dx;rw[aS]
  have e2:QJ i 0 a x o=(if a=o.Χ.fr then - Oz x o.Χ.am else 0):=by
   unfold QJ;rw[Ο (show ¬(((0:Int)=1/\o.state=2/\o.Χ.ts=i)/\a=o.Χ.to) from λq=>iJ q.1.1 ac),ed];by_cases q:a=o.Χ.fr
   .omega
   .omega
  have M:ia x o=Oz x o.Χ.am:=Ω Q;rw[e,yU,wB,lY,mH,mF,e2,iU,M];grind [Oz]
theorem CI{a x to:Int}(ha:a≠0):∀(am:List (Int×Int)) (h1:List Int),h1.length=am.length->NU a x (G7 to am h1)=0/\gE a x (G7 to am h1)=if a=to then Oz x am else 0
 | [],_,_=>⟨rfl,by show(0:Int)=if a=to then 0 else 0;omega⟩
 | _::_,[],h=>by cases h
 | p::am,j::h1,h=>by
  obtain⟨I,Q⟩:=CI (a:=a) (x:=x) (to:=to) ha am h1 ah
  have e1:NU a x (G7 to (p::am) (j::h1))=(if a=0 then(if x=p.1 then p.2 else 0) else 0)+NU a x (G7 to am h1):=by
   unfold NU G7;rw[List.zip_cons_cons,al,al,aR];rfl
  have e2:gE a x (G7 to (p::am) (j::h1))=(if a=to then(if x=p.1 then p.2 else 0) else 0)+gE a x (G7 to am h1):=by
   unfold gE G7;rw[List.zip_cons_cons,al,al,aR];rfl
  grind [Oz]
def oq(i st Κ a x:Int)(o:hD):Int:=QJ i st a x o+(if a=Κ then ia x o else 0)
def Ri(i st Κ a x:Int)(os:List hD):Int:=jm i st a x os+(if a=Κ then gx x os else 0)
theorem yV(i st Κ a x:Int)(o:hD)(os:List hD):Ri i st Κ a x (o::os)=oq i st Κ a x o+Ri i st Κ a x os:=by
 grind [Ri,oq,mF,iU]
theorem Fv{i r st Κ B:Int}{c:B4}(A:0<=i/\i<12){o:hD}{S:Τ}(h:PK i c S)(hk:ey S+dU o<=2000)(J:st=1\/st=2){a x:Int}(ha:a≠0):aW ((bY i r st Κ B o S).2.2.ξ a x)=aW (S.ξ a x) - oq i st Κ a x o+oq i st Κ a x (bY i r st Κ B o S).2.1:=by
 unfold bY;by_cases h0:o.state≠0
 .grind
 rw[Ο h0];have h0:o.state=0:=D;have hk:ey S+o.Χ.am.length<=2000:=by rw[show dU o=o.Χ.am.length from Ω h0] at hk;exact hk
 have e0:oq i st Κ a x o=(if a=o.Χ.fr then - Oz x o.Χ.am else 0)+(if a=Κ then Oz x o.Χ.am else 0):=by
  have M:ia x o=Oz x o.Χ.am:=Ω h0;unfold oq QJ;rw[Ο (show ¬((st=1/\o.state=2/\o.Χ.ts=i)/\a=o.Χ.to) from λq=>by have:=q.1.2.1;omega),ed,M];congr 1;by_cases q:a=o.Χ.fr
  .omega
  .omega
 have hz:∀o' : hD,o'.state≠0->oq i st Κ a x o' = QJ i st a x o':=by grind [ia,oq]
 by_cases I:st=1/\o.Χ.ts≠i
 .rw[Ω I];by_cases Q:E6 S 6 B (B5 Κ 0 o.Χ.am)=true
  .grind [rR,QJ]
  grind
 rw[Ο I];obtain⟨t,a2⟩:∃t,(if st=2 then o.Χ.fr else o.Χ.to)=t:=⟨_,rfl⟩;rw[a2];by_cases Q:E6 S 2 B (B5 Κ t o.Χ.am)=true
 .rw[Ω Q];dsimp only;rw[rR A h hk Q a x ha,e0,hz _ ah];rcases J with rfl|rfl
  .grind [QJ]
  grind [QJ]
 grind
theorem sL{i r st Κ B:Int}{c:B4}{f:hD->Τ->List fK×hD×Τ}(hf:f=bY i r st Κ B\/f=B9 i r st Κ B)(A:0<=i/\i<12)(J:st=1\/st=2){a x:Int}(ha:a≠0):∀(os:List hD) (S:Τ),Qt i c B S->ey S+cl os<=2000->aW ((B0 f os S).2.2.ξ a x)=aW (S.ξ a x) - Ri i st Κ a x os+Ri i st Κ a x (B0 f os S).2.1
 | [],S,_,_=>by
  show aW (S.ξ a x)=aW (S.ξ a x) - Ri i st Κ a x []+Ri i st Κ a x [];omega
 | o::os,S,h,hk=>by
  have ek:cl (o::os)=dU o+cl os:=by unfold cl;rw[al,aR]
  have I:(aW ((f o S).2.2.ξ a x)=aW (S.ξ a x) - oq i st Κ a x o+oq i st Κ a x (f o S).2.1)/\Qt i c B (f o S).2.2/\ey (f o S).2.2+dU (f o S).2.1<=ey S+dU o:=by
   have hw:=Fv (r:=r) (Κ:=Κ) (B:=B) A (o:=o) h.rep D J ha (x:=x);have T:=xE (r:=r) (cN:=st) (Κ:=Κ) (o:=o) h;have hp:=mW (d:=i) (r:=r) (cN:=st) (Κ:=Κ) (B:=B) (o:=o) (S:=S);rcases hf with rfl|rfl
   .grind
   .grind [B9]
  have ih:=sL hf A J ha (x:=x) os (f o S).2.2 I.2.1 D;show aW ((B0 f os (f o S).2.2).2.2.ξ a x)=aW (S.ξ a x) - Ri i st Κ a x (o::os)+Ri i st Κ a x ((f o S).2.1::(B0 f os (f o S).2.2).2.1);rw[ih,I.1,yV,yV];omega
def Hm{i a x st Κ:Int}:dQ i a x ⟨st,Κ,[]⟩=0:=by
 show(0:Int)+(if a=Κ then 0 else 0)=0;omega
def yX{i st a x:Int}:∀{os:List hD},(∀o∈os,o.state=0)->jm i 0 a x os=jm i st a x os
 | [],_=>rfl
 | o::os,h=>by
  rw[mF,mF,yX (st:=st) λy U=>h y (az _ U)];have h0:=h o au;congr 1;unfold QJ;rw[h0];congr 1
  .by_cases q:a=o.Χ.fr
   .rw[Ω ⟨λz=>iJ z.2 ac,q⟩,Ω ⟨λz=>iJ z.2 ac,q⟩]
   .rw[Ο λz=>q z.2,Ο λz=>q z.2]
  .rw[Ο λz=>iJ z.1.2.1 ac,Ο λz=>iJ z.1.2.1 ac]
theorem Ix{nd:M3}{i r st a x ai:Int}{o:hD}(h:UB nd i r st o):QJ i st a x (eY ai o)=QJ i st a x o:=by
 unfold eY;split
 .rename_i q;obtain⟨s1,s2,_⟩:=h.s1 q.2;grind [QJ]
 .rfl
section
variable {F:Int}{g:Gh}{nd:M3}{O:List fK}{i Ν B r:Int}{m:G4}{S:Τ}{b0:Int->Int->Int}{c:B4}
def SG.bg{N:ω}(h:SG b0 g i N S){ν:Int}{b:List (Int×K4)}:SG b0 g i { N with ν:=ν,Ψ:=b } S:=h
theorem GM(hB:SG b0 g i (nd i) S)(hA:PA F g nd O)(hR:PX F g)(hi:0<=i/\i<F)(a6:F<=12)(hn:((nd i).Γ.map (·.1)).Nodup)(hH:NH i c B (nd i) S)(hm:OY F g nd ⟨Ν,i,m⟩)(hJ:L4 g ⟨Ν,i,m⟩)(I:m.Ζ=1->ε (nd i).Γ m.r=none->ey S+cl (B6 i 0 m.Α)<=2000)(h5:m.Ζ=5->(m.r,m.ai)∉(nd i).wk->∀l∈m.Α,ey S+2*l.am.length<=2000)(hk:ey S+F0 (nd i)<=2000):SG b0 g i (aX i Ν m B (nd i) S).2.1 (aX i Ν m B (nd i) S).2.2:=by
 have a2:0<=i/\i<12:=D;have a7:=hH.T;unfold aX;by_cases k1:m.Ζ=1
 .rw[Ω k1];unfold eM;cases hp:ε (nd i).Γ m.r with
  | some p=>exact hB
  | none =>
   dsimp only;by_cases A:E6 S 2 B (dx (268435456+(nd i).T) (B6 i 0 m.Α))=true
   .rw[Ω A];intro a x ha;have a3:∀o∈B6 i 0 m.Α,o.state=0:=λo ho=>(iX ho).2.2;have q:=ly a2 hH.ld.rep (s:=H9 2 B (dx (268435456+(nd i).T) (B6 i 0 m.Α))) (by show ey S+C6 (dx (268435456+(nd i).T) (B6 i 0 m.Α))<=2000;rw[kJ _ _ a3];exact I k1 hp) (kL A) a x D;have q2:=zy (i:=i) (a:=a) (x:=x) (Κ:=268435456+(nd i).T) a3;have q3:=hB a x ha;have q4:=tv (g:=g) (i:=i) (c:=(nd i).T+1) (a:=a) (x:=x) (q:=⟨0,268435456+(nd i).T,B6 i 0 m.Α⟩) hp;grind [H9,dQ]
   .rw[Ο A];intro a x ha;have q4:=tv (g:=g) (i:=i) (c:=(nd i).T) (a:=a) (x:=x) (q:=⟨3,268435456+(nd i).T,[]⟩) hp;have e:dQ i a x ⟨3,268435456+(nd i).T,[]⟩=0:=Hm;rw[e,ed] at q4;show _=b0 a x+Pc g i { nd i with T:=(nd i).T,Γ:=ez (nd i).Γ m.r ⟨3,268435456+(nd i).T,[]⟩ } a x;rw[q4];exact hB a x ha
 rw[Ο k1];by_cases k2:m.Ζ=2
 .rw[Ω k2];unfold eu;cases M:ε (nd i).Ψ m.r with
  | none=>exact hB
  | some x =>
   dsimp only;split
   .exact hB
   split
   .exact hB
   split
   .exact hB
   .exact hB
 rw[Ο k2];by_cases k3:m.Ζ=3
 .rw[Ω k3];unfold dq;cases hp:ε (nd i).Γ m.r with
  | none =>
   intro a x ha;have q4:=tv (g:=g) (i:=i) (c:=(nd i).T) (a:=a) (x:=x) (q:=⟨3,0,[]⟩) hp;have e:dQ i a x ⟨3,0,[]⟩=0:=Hm;rw[e,ed] at q4;show _=b0 a x+Pc g i { nd i with T:=(nd i).T,Γ:=ez (nd i).Γ m.r ⟨3,0,[]⟩ } a x;rw[q4];exact hB a x ha
  | some p =>
   have hT:=hA.pt i hi _ _ hp;dsimp only;by_cases h0:p.state=0
   .rw[Ω h0,iC];have a5:(if m.yes=true then(1:Int) else 2)=1\/(if m.yes=true then(1:Int) else 2)=2:=by split<;>simp
    generalize (if m.yes=true then(1:Int) else 2)=st at *;intro a x ha;have q4:=tu (g:=g) (i:=i) (c:=(nd i).T) (a:=a) (x:=x) (q:=⟨st,p.Κ,(B0 (bY i m.r st p.Κ B) p.Α S).2.1⟩) hn hp;have a4:∀o∈p.Α,o.state=0:=λo ho=>(hT.ow o ho).s0 h0
    have eP:dQ i a x p=Ri i st p.Κ a x p.Α:=by
     unfold dQ Ri;rw[h0,yX (st:=st) a4]
    have eQ:dQ i a x ⟨st,p.Κ,(B0 (bY i m.r st p.Κ B) p.Α S).2.1⟩=Ri i st p.Κ a x (B0 (bY i m.r st p.Κ B) p.Α S).2.1:=rfl;rw[eP,eQ] at q4;show aW ((B0 (bY i m.r st p.Κ B) p.Α S).2.2.ξ a x)=b0 a x+Pc g i { nd i with T:=(nd i).T,Γ:=ez (nd i).Γ m.r ⟨st,p.Κ,(B0 (bY i m.r st p.Κ B) p.Α S).2.1⟩ } a x;rw[q4];have q3:=hB a x ha;by_cases T:p.Α=[]
    .grind [B0]
    .have b1:=lx (bR hp);have q:=sL (.inl rfl) a2 (r:=m.r) (Κ:=p.Κ) a5 ha (x:=x) p.Α S hH.ld ah;omega
   grind
 rw[Ο k3];by_cases k4:m.Ζ=4
 .rw[Ω k4];unfold gd ω.J2;cases M:ε (nd i).Ψ m.r with
  | none=>exact hB
  | some x=>exact hB
 rw[Ο k4];by_cases k5:m.Ζ=5
 .rw[Ω k5];obtain⟨⟨l,l1,l2,l3,l4,l5,l6⟩,hP⟩:=hm.tr k5;have l1:g.Χ (m.r,m.ai)=some l:=l1;have l5:m.Α=[l]:=l5;have a9:=hR.Χ l1;unfold dS;split
  .exact hB
  rename_i hr;split
  .rename_i J;split
   .rename_i A;have e:m.Α[0]! = l:=by rw[l5];rfl
    rw[e] at A J ⊢;intro a x ha;have q:=ly a2 hH.ld.rep (s:=H9 5 B (G7 l.to l.am m.Μ)) (by show ey S+C6 (G7 l.to l.am m.Μ)<=2000;grind [kA]) (kL A) a x D;obtain⟨i1,i2⟩:=CI (a:=a) (x:=x) (to:=l.to) D l.am m.Μ J.2;rw[show(H9 5 B (G7 l.to l.am m.Μ)).gN=G7 l.to l.am m.Μ from rfl,i1,i2] at q;have q3:=hB a x ha;grind [Pc,dR]
   .exact hB
  .exact hB
 rw[Ο k5];by_cases k6:m.Ζ=6
 .rw[Ω k6];unfold OI ω.K5;cases hp:ε (nd i).Γ m.r with
  | none=>exact hB
  | some p =>
   have hT:=hA.pt i hi _ _ hp;dsimp only;intro a x ha;have q4:=tu (g:=g) (i:=i) (c:=(nd i).T) (a:=a) (x:=x) (q:=⟨p.state,p.Κ,p.Α.map (eY m.ai)⟩) hn hp
   have e:dQ i a x ⟨p.state,p.Κ,p.Α.map (eY m.ai)⟩=dQ i a x p:=by
    have e1:jm i p.state a x (p.Α.map (eY m.ai))=jm i p.state a x p.Α:=by
     unfold jm;rw[cu];exact congrArg List.sum (aU λo ho=>Ix (hT.ow o ho))
    have e2:gx x (p.Α.map (eY m.ai))=gx x p.Α:=by
     unfold gx;rw[cu];refine congrArg List.sum (aU λo _=>?_);show ia x (eY m.ai o)=ia x o;unfold eY;split
     .grind [ia]
     .rfl
    unfold dQ;dsimp only;rw[e1,e2]
   rw[e] at q4;show _=b0 a x+Pc g i { nd i with T:=(nd i).T,Γ:=ez (nd i).Γ m.r ⟨p.state,p.Κ,p.Α.map (eY m.ai)⟩ } a x;rw[q4];have q3:=hB a x ha;omega
 grind
theorem Jo(hB:SG b0 g i (nd i) S)(hi:0<=i/\i<F)(a2:F<=12)(hn:((nd i).Γ.map (·.1)).Nodup)(hH:NH i c B (nd i) S)(hk:ey S+F0 (nd i)<=2000):SG b0 g i (K7 i B r (nd i) S).2.1 (K7 i B r (nd i) S).2.2:=by
 have A:0<=i/\i<12:=D;unfold K7;cases hp:ε (nd i).Γ r with
 | none=>exact hB
 | some p =>
  dsimp only;split
  .rename_i J;intro a x ha;have q4:=tu (g:=g) (i:=i) (c:=(nd i).T) (a:=a) (x:=x) (q:=⟨p.state,p.Κ,(B0 (B9 i r p.state p.Κ B) p.Α S).2.1⟩) hn hp;have eP:dQ i a x p=Ri i p.state p.Κ a x p.Α:=rfl;have eQ:dQ i a x ⟨p.state,p.Κ,(B0 (B9 i r p.state p.Κ B) p.Α S).2.1⟩=Ri i p.state p.Κ a x (B0 (B9 i r p.state p.Κ B) p.Α S).2.1:=rfl;rw[eP,eQ] at q4;show aW ((B0 (B9 i r p.state p.Κ B) p.Α S).2.2.ξ a x)=b0 a x+Pc g i { nd i with T:=(nd i).T,Γ:=ez (nd i).Γ r ⟨p.state,p.Κ,(B0 (B9 i r p.state p.Κ B) p.Α S).2.1⟩ } a x;rw[q4];have q3:=hB a x ha;by_cases T:p.Α=[]
   .grind [B0]
   .have a3:=lx (bR hp);have q:=sL (.inr rfl) A (r:=r) (Κ:=p.Κ) J ha (x:=x) p.Α S hH.ld ah;omega
  .exact hB
end
end
section
open Go.V
def RT(S:Τ):Prop:=∀x,S.iL x<=40*((ey S:Int)+8)
theorem FI{x:Int}:∀{lp:List E3},(∀f∈lp,0<=f.n/\f.n<=40)->RC x lp<=40*(lp.length:Int)
 | [],_=>bE 0
 | f::lp,h=>by
  have ih:=FI (x:=x) λf hf=>h f (az _ hf);have h0:=h f ah;rw[xZ,aL];grind [VH,U6]
def JF{k:Int}:∀{O:List B1} {r:Int} {lp:List E3},SE k r O lp->∀f∈lp,∃m∈O,f.n=m.n
 | [],_,_,h,f,hf=>by rw[show _=[] from h] at hf;cases hf
 | m::O,r,_,⟨g,F',I,Q,h3⟩,f,hf=>by
  rw[I] at hf;rcases L7 hf with rfl|hf
  .exact⟨m,au,Q.2.2.2.1⟩
  .obtain⟨y,q2,q3⟩:=JF h3 f hf;exact⟨y,az _ q2,q3⟩
theorem RT.S5{S:Τ}(h:RT S){Ζ B:Int}{O:List B1}(A:E6 S Ζ B O=true)(hk:¬(Ζ=4\/Ζ=10\/Ζ=7\/Ζ=9))(hm:∀m∈O,0<=m.n/\m.n<=40):RT (L3 S Ζ B O):=λx=>by
 have h0:=kL A;obtain⟨lp,f1,f2,f3,_⟩:=vn h0 hk;have q:=f3 x;have M:=h x;have T:=oR f2
 have I:=FI (x:=x) λf hf=>by
  obtain⟨m,q1,q2⟩:=JF f2 f hf;rw[q2];exact hm m q1
 grind [rG,H9,nv]
theorem zb{f t:Int}{am:List (Int×Int)}(h:Sh am)(Q:∀p∈am,p.2<=12):∀m∈B5 f t am,0<=m.n/\m.n<=40:=λm hm=>by
 obtain⟨p,hp,rfl⟩:=H8 hm;have q:=(h.2 p hp).2;grind
def LV{to:Int}{am:List (Int×Int)}{fl:List Int}(h:Sh am)(Q:∀p∈am,p.2<=12):∀m∈G7 to am fl,0<=m.n/\m.n<=40:=λm hm=>by
 obtain⟨p,hp,rfl⟩:=H8 hm;have hp:=(fR hp).1;have q:=(h.2 p.1 hp).2;have q2:=Q p.1 hp;show 0<=p.1.2/\p.1.2<=40;omega
theorem JO{i r st Κ B:Int}{o:hD}{S:Τ}(h:RT S)(ho:Sh o.Χ.am/\∀p∈o.Χ.am,p.2<=12):RT (bY i r st Κ B o S).2.2:=by
 unfold bY;by_cases h0:o.state≠0
 .grind
 rw[Ο h0];by_cases I:st=1/\o.Χ.ts≠i
 .rw[Ω I];by_cases Q:E6 S 6 B (B5 Κ 0 o.Χ.am)=true
  .rw[Ω Q];exact h.S5 Q ac (zb ho.1 ho.2)
  grind
 rw[Ο I];generalize (if st=2 then o.Χ.fr else o.Χ.to)=t;by_cases Q:E6 S 2 B (B5 Κ t o.Χ.am)=true
 .rw[Ω Q];exact h.S5 Q ac (zb ho.1 ho.2)
 grind
theorem FL{i r st Κ B:Int}:∀(os:List hD) (S:Τ),RT S->(∀o∈os,Sh o.Χ.am/\∀p∈o.Χ.am,p.2<=12)->RT (B0 (bY i r st Κ B) os S).2.2
 | [],S,h,_=>h
 | o::os,S,h,ho=>FL os _ (JO h ah) ah
def Hy{i r st Κ B:Int}:∀(os:List hD) (S:Τ),(∀o∈os,o.state≠0)->(B0 (B9 i r st Κ B) os S).2=(os,S)
 | [],S,_=>rfl
 | o::os,S,h=>by
  have e:(B9 i r st Κ B o S).2=(o,S):=by
   unfold B9 bY;split
   .rfl
   .rw[Ω (h o au)]
  have ih:=Hy (i:=i) (r:=r) (st:=st) (Κ:=Κ) (B:=B) os S λy U=>h y (az _ U);show((B9 i r st Κ B o S).2.1::(B0 (B9 i r st Κ B) os (B9 i r st Κ B o S).2.2).2.1,(B0 (B9 i r st Κ B) os (B9 i r st Κ B o S).2.2).2.2)=(o::os,S);rw[e];dsimp only;rw[ih]
section
variable {F:Int}{g:Gh}{nd:M3}{O:List fK}{i Ν B r:Int}{m:G4}{S:Τ}{b0:Int->Int->Int}{c:B4}
def L4.small(hJ:L4 g ⟨Ν,i,m⟩)(hR:PX F g)(hk:m.Ζ=1\/m.Ζ=5):∀l∈m.Α,Rh F l:=λl T=>by
 rcases hk with k|k
 .exact(hR _ _ (hJ.pr k)).2 l T
 .obtain⟨l',q1,q2,_⟩:=hJ.tr k;have q2:m.Α=[l']:=q2;rw[q2] at T;rw[GO T];exact hR.Χ q1
def Rh.sm{l:x4}(h:Rh F l):Sh l.am/\∀p∈l.am,p.2<=12:=⟨h.h.am,h.am⟩
theorem KK(hT:RT S)(hA:PA F g nd O)(hR:PX F g)(hi:0<=i/\i<F)(hJ:L4 g ⟨Ν,i,m⟩):RT (aX i Ν m B (nd i) S).2.2:=by
 unfold aX;by_cases k1:m.Ζ=1
 .rw[Ω k1];unfold eM;cases hp:ε (nd i).Γ m.r with
  | some p=>exact hT
  | none =>
   dsimp only;by_cases A:E6 S 2 B (dx (268435456+(nd i).T) (B6 i 0 m.Α))=true
   .rw[Ω A];refine hT.S5 A ac λy U=>?_;obtain⟨o,ho,U⟩:=List.mem_flatMap.1 U;obtain⟨⟨_,q⟩,_,_⟩:=iX ho;have hs:=(hJ.small hR (.inl k1) _ (List.mem_of_getElem? q)).sm;exact zb hs.1 hs.2 y U
   grind
 rw[Ο k1];by_cases k2:m.Ζ=2
 .grind [eu]
 rw[Ο k2];by_cases k3:m.Ζ=3
 .rw[Ω k3];unfold dq;cases hp:ε (nd i).Γ m.r with
  | none=>exact hT
  | some p =>
   have hP:=hA.pt i hi _ _ hp;dsimp only;split
   .rw[iC];exact FL _ _ hT λo ho=>(hR.Χ (hP.Χ ho).1).sm
   .exact hT
 rw[Ο k3];by_cases k4:m.Ζ=4
 .grind [gd]
 rw[Ο k4];by_cases k5:m.Ζ=5
 .rw[Ω k5];unfold dS;split
  .exact hT
  split
  .rename_i T;split
   .rename_i A;have hs:=(hJ.small hR (.inr k5) _ (bI (by omega:0<m.Α.length))).sm;exact hT.S5 A ac (LV hs.1 hs.2)
   .exact hT
  .exact hT
 grind [OI]
theorem IU(h:(nd i).T<=ey S):(aX i Ν m B (nd i) S).2.1.T<=ey (aX i Ν m B (nd i) S).2.2:=by
 unfold aX;by_cases k1:m.Ζ=1
 .rw[Ω k1];unfold eM;grind [E6,nv,tx,rG]
 rw[Ο k1];by_cases k2:m.Ζ=2
 .grind [eu]
 rw[Ο k2];by_cases k3:m.Ζ=3
 .grind [dq,vc]
 rw[Ο k3];by_cases k4:m.Ζ=4
 .grind [gd,ω.J2]
 grind [dS,uF,OI,ω.K5]
theorem Hw:∀{am:List (Int×Int)},(∀p∈am,p.2<=12)->(am.map (·.2)).sum<=12*(am.length:Int)
 | [],_=>bE 0
 | p::am,h=>by
  have I:=Hw λq hq=>h q (az _ hq);grind
theorem LU{N:ω}(hg:Ng g)(hN:M1 g i N S)(hH:NH i c B N S)(hT:RT S)(hR:PX F g)(hi:0<=i/\i<F)(a9:F<=12)(hm:OY F g nd ⟨Ν,i,m⟩)(hJ:L4 g ⟨Ν,i,m⟩)(hk:m.Ζ=5)(hr:(m.r,m.ai)∉N.wk)(hb:∀l∈m.Α,ey S+2*l.am.length<=2000)(ht:B<=1099511627776):(m.Α.length=1/\m.Μ.length=m.Α[0]!.am.length)/\E6 S 5 B (G7 m.Α[0]!.to m.Α[0]!.am m.Μ)=true:=by
 obtain⟨⟨l,l1,l2,l3,l4,l5,l6⟩,_⟩:=hm.tr hk;have l1:g.Χ (m.r,m.ai)=some l:=l1;have l2:l.d=Ν:=l2;have l3:l.ts=i:=l3;have l4:Ν≠i:=l4;have l5:m.Α=[l]:=l5;have l6:m.Μ.length=l.am.length:=l6;obtain⟨l',p1,_,_,p4⟩:=hJ.tr hk;have p4:g.X (m.r,m.ai)=some m.Μ:=p4;have e:m.Α[0]! = l:=by rw[l5];rfl
 have A:=hR.Χ l1;have a3:=hb l ah;refine⟨⟨by rw[l5];rfl,ah⟩,?_⟩;rw[e];obtain⟨a6,x1,x2,x3⟩:=hg.xl _ _ p4;have el:a6 = l:=ah;have b1:=A.h.to;have b0:=A.d;have a4:=A.len;have a5:=Hw A.am;refine IP D hH.ld.rep hH.ld.υ hN.ls.J1.Wy a3 ⟨hH.ld.now,ht⟩ A.h.am l6 x3 (λz hz=>?_) (λx=>?_) D
 .have q:=x2 z hz;rw[el] at q;refine⟨D,D,λy U e2=>?_⟩;rw[hN.ls.imp] at U;obtain⟨k',a2,U⟩:=List.mem_flatMap.1 U;obtain⟨b2,a7,r1,_,r3⟩:=hN.ls.rc k' a2;rw[jV r1 r3] at U;obtain⟨p,hp,rfl⟩:=H8 U;have J:=(fR hp).2;have e2:p.2=z:=e2;rw[e2] at J;exact hg.Wz _ _ _ _ p4 r3 ah z hz J
 .have q:=hT x;omega
structure ZH (b0:Int->Int->Int) (g:Gh) (i B:Int) (N:ω) (S:Τ):Prop where
 np:(N.Γ.map (·.1)).Nodup
 hd:NH i I4 B N S
 T:N.T<=ey S
 tt:RT S
 S7:SG b0 g i N S
end
end
section
open Go.V
def jA.nf(W:jA):M3:=λi=>if 0<=i/\i<W.D8.length then(W.nd i).1 else⟨0,0,[],[],[]⟩
def jA.put(W:jA)(i:Int)(Δ:L6)(cR:List fK):jA:={ W with D8:=W.D8.set i.toNat (Δ.2.1,Δ.2.2),O:=cR++Δ.1 }
theorem EA{W:jA}{i:Int}(h:0<=i/\i<W.D8.length):W.nf i=(W.nd i).1:=Ω h
theorem ul{W:jA}{i j:Int}{Δ:L6}{cR:List fK}(hi:0<=i/\i<W.D8.length)(hj:0<=j/\j<W.D8.length):(W.put i Δ cR).nd j=if j=i then(Δ.2.1,Δ.2.2) else W.nd j:=ux (W:=W) (F:=W.D8.length) rfl hi hj
theorem vm{W:jA}{i:Int}{Δ:L6}{cR:List fK}:(W.put i Δ cR).D8.length=W.D8.length:=bU
theorem jM{W:jA}{i:Int}{Δ:L6}{cR:List fK}(hi:0<=i/\i<W.D8.length):(W.put i Δ cR).nf=O2 W.nf i Δ.2.1:=by grind [jA.nf,vm,O2,ul]
theorem oJ{W:jA}{i:Int}{Δ r2:L6}{cR A:List fK}:(W.put i Δ cR).put i r2 A=W.put i r2 A:=by
 grind [jA.put,List.set_set]
theorem qc{f f' : Nat->Nat}{k:Nat}:∀{n:Nat},k<n->(∀j,j≠k->f' j=f j)->((List.range n).map f').sum+f k=((List.range n).map f).sum+f' k
 | 0,h,_=>D
 | n+1,h,hj=>by
  have e:∀q:Nat->Nat,((List.range (n+1)).map q).sum=((List.range n).map q).sum+q n:=by grind [df]
  rw[e,e];by_cases q:k=n
  .grind [aU]
  .have ih:=qc (n:=n) D hj;grind
def Pp(g:Gh)(R:List Int)(F:Int)(W:jA):Nat:=wS W.O+((List.range F.toNat).map λj:Nat=>NP g R (j:Int) (W.nf j)).sum
theorem Mw{g fJ : Gh}(h:fJ.Β=g.Β)(R:List Int)(i:Int)(N:ω):NP fJ R i N=NP g R i N:=by
 grind [NP,aU,NO,PN,cV]
theorem xt{g fJ : Gh}(h:fJ.Β=g.Β)(R:List Int)(F:Int)(W:jA):Pp fJ R F W=Pp g R F W:=by
 grind [Pp,Mw]
def vp{g:Gh}{R:List Int}{F:Int}{W:jA}{i:Int}{Δ:L6}{cR:List fK}{Ξ u w:Nat}(T:(W.D8.length:Int)=F)(hi:0<=i/\i<F)(hw:wS cR+w=wS W.O)(h:wS Δ.1+NP g R i Δ.2.1+Ξ<=w+u+NP g R i (W.nf i)):Pp g R F (W.put i Δ cR)+Ξ<=Pp g R F W+u:=by
 have e:=jM (W:=W) (Δ:=Δ) (cR:=cR) (i:=i) D
 have q:=qc (n:=F.toNat) (k:=i.toNat) (f:=λj:Nat=>NP g R (j:Int) (W.nf j)) (f':=λj:Nat=>NP g R (j:Int) ((W.put i Δ cR).nf j)) D λj hj=>by
  rw[e,fH _ D]
 rw[show((i.toNat:Nat):Int)=i by omega] at q;have e2:(W.put i Δ cR).nf i=Δ.2.1:=by rw[e,eA]
 rw[e2] at q;have e3:wS (W.put i Δ cR).O=wS cR+wS Δ.1:=tU _ _;unfold Pp;omega
theorem Iq{g:Gh}{R:List Int}{F:Int}{W W' : jA}(h:W'.D8=W.D8)(hm:W'.O.Perm W.O):Pp g R F W' = Pp g R F W:=by
 grind [jA.nf,jA.nd,Pp,ve]
structure OF (F:Int) (b:Nat) (b0:Int->Int->Int->Int) (g:Gh) (R:List Int) (W:jA):Prop where
 MY:1<=F/\F<=3
 len:(W.D8.length:Int)=F
 B:0<=W.B/\W.B<=1099511627776
 hb:b<=1900
 cv:Oy F b g R W
 gr:PX F g
 ag:PA F g W.nf W.O
 nd:∀i:Int,0<=i/\i<F->ZH (b0 i) g i W.B (W.nd i).1 (W.nd i).2
theorem OF.nf{F:Int}{b:Nat}{b0:Int->Int->Int->Int}{g:Gh}{R:List Int}{W:jA}(h:OF F b b0 g R W){i:Int}(hi:0<=i/\i<F):W.nf i=(W.nd i).1:=EA (by have:=h.len;omega)
theorem OF.put{F:Int}{b:Nat}{b0:Int->Int->Int->Int}{g:Gh}{R:List Int}{W:jA}(h:OF F b b0 g R W){i:Int}(hi:0<=i/\i<F){Δ:L6}{cR:List fK}(A:∀y∈cR,y∈W.O)(a5:I3 g i Δ)(a2:MO g R i (W.nd i).1 (W.nd i).2 Δ)(a4:Ni F g W.nf i Δ.2.1 Δ.1)(hd:NH i I4 W.B Δ.2.1 Δ.2.2)(a6:Δ.2.1.T<=ey Δ.2.2)(hT:RT Δ.2.2)(J:SG (b0 i) g i Δ.2.1 Δ.2.2):∃fJ,fJ.Β=g.Β/\OF F b b0 fJ R (W.put i Δ cR):=by
 have T:=h.len;have hc:Oy F b g R { W with O:=cR }:=⟨h.cv.cv.drop rfl A,h.cv.hR,h.cv.QX,h.cv.pn⟩;obtain⟨fJ,e,hC⟩:=hc.send T hi a5 a2;have a3:0<=i/\i<W.D8.length:=D;refine⟨fJ,e,h.MY,by rw[vm];exact T,h.B,h.hb,hC,λr ls q=>h.gr r ls ah,?_,λj hj=>?_⟩
 .rw[jM a3];exact h.ag.step a4 e A
 .rw[ul a3 D];by_cases q:j=i
  .rw[Ω q,q];exact⟨a2.np,hd,a6,hT,λa x ha=>by rw[zI e];exact J a x ha⟩
  .rw[Ο q];have k:=h.nd j hj;exact⟨k.np,k.hd,k.T,k.tt,λa x ha=>by rw[zI e];exact k.S7 a x ha⟩
def OF.perm{F:Int}{b:Nat}{b0:Int->Int->Int->Int}{g:Gh}{R:List Int}{W W' : jA}(h:OF F b b0 g R W)(hn:W'.D8=W.D8)(ht:W'.B=W.B)(hm:∀y∈W'.O,y∈W.O):OF F b b0 g R W':=by
 have e:∀i,W'.nd i=W.nd i:=λi=>by unfold jA.nd;rw[hn]
 have e2:W'.nf=W.nf:=by unfold jA.nf jA.nd;rw[hn]
 exact⟨h.MY,by rw[hn];exact h.len,by rw[ht];exact h.B,h.hb,h.cv.drop hn hm,h.gr,by rw[e2];exact h.ag.sub hm,λi hi=>by rw[e,ht];exact h.nd i hi⟩
theorem Kn{g:Gh}{R:List Int}{i r:Int}{N:ω}{S:Τ}{ls:List x4}(hG:g.Β r=some ls)(A:r∈R)(hp:ε N.Γ r=none):ey S+cl (B6 i 0 ls)<=pn g R i N S:=by
 have I:=oM i 0 ls;have Q:=rp (f:=λr=>if(ε N.Γ r).isNone=true then 2*Nu (cV g r) else 0) A;grind [cV,pn,nP]
def LD{g:Gh}{R:List Int}{i:Int}{k:Int×Int}{N:ω}{S:Τ}{l:x4}(T:g.Χ k=some l)(J:l.ts=i)(A:k.1∈R)(hk:k∉N.wk):ey S+2*l.am.length<=pn g R i N S:=by
 have I:=Gn T J A hk;unfold pn;omega
section
variable {F:Int}{b:Nat}{b0:Int->Int->Int->Int}{g:Gh}{R:List Int}{W:jA}{m:fK}
theorem OF.room(h:OF F b b0 g R W)(hm:m∈W.O):(0<=m.to/\m.to<F)/\OY F g W.nf m/\L4 g m/\(m.ct.Ζ=1->ε (W.nd m.to).1.Γ m.ct.r=none->ey (W.nd m.to).2+cl (B6 m.to 0 m.ct.Α)<=1900)/\(m.ct.Ζ=5->(m.ct.r,m.ct.ai)∉(W.nd m.to).1.wk->∀l∈m.ct.Α,ey (W.nd m.to).2+2*l.am.length<=1900)/\ey (W.nd m.to).2+F0 (W.nd m.to).1<=1900:=by
 have hT:=h.ag.O m hm;have hJ:=h.cv.cv.O m hm;have A:=hT.to;have J:=h.cv.pn m.to A;have hb:=h.hb;refine⟨A,hT,hJ,λk hp=>?_,λk hr l T=>?_,?_⟩
 .have hG:=hJ.pr k;have:=Kn (i:=m.to) (S:=(W.nd m.to).2) hG (h.cv.hR _ _ hG) hp
  omega
 .obtain⟨l',q1,q2,q3,_⟩:=hJ.tr k;rw[q2] at T;obtain rfl:=GO T;obtain⟨ls,r1,_⟩:=zm q1;have:=LD (S:=(W.nd m.to).2) q1 q3 (h.cv.hR _ _ r1) hr
  omega
 grind [um]
theorem FB{i Ν B:Int}{m:G4}{N:ω}{S:Τ}(h:m.Ζ=5)(hr:(m.r,m.ai)∈N.wk):(aX i Ν m B N S).2=(N,S):=by
 grind [aX,dS]
theorem OF.hand(h:OF F b b0 g R W){cR:List fK}(hp:W.O.Perm (m::cR)):∃fJ,fJ.Β=g.Β/\OF F b b0 fJ R (W.put m.to (aX m.to m.Ν m.ct W.B (W.nd m.to).1 (W.nd m.to).2) cR)/\Pp fJ R F (W.put m.to (aX m.to m.Ν m.ct W.B (W.nd m.to).1 (W.nd m.to).2) cR)+(if m.to=m.Ν then 0 else 1)<=Pp g R F W:=by
 have a7:m∈W.O:=hp.mem_iff.2 au;have J:∀y∈cR,y∈W.O:=λy U=>hp.mem_iff.2 (az _ U);obtain⟨hi,hT,hJ,r1,r5,rk⟩:=h.room a7;have hK:=h.nd m.to hi;have hN:=h.cv.cv.nd m.to hi;have e:=h.nf hi;have hr:=h.MY;have a9:=hK.hd.T;have hB:∀r x,ε (W.nf m.to).Ψ r=some x->g.Β r=some x.Α:=by rw[e];exact hN.bg
 have a2:=zC (i:=m.to) (Ν:=m.Ν) (m:=m.ct) (B:=W.B) (S:=(W.nd m.to).2) h.ag hB h.gr hi hT hJ;have a4:=IT (R:=R) (i:=m.to) (Ν:=m.Ν) (m:=m.ct) (B:=W.B) (S:=(W.nd m.to).2) h.cv.hR h.ag hT hi hJ;have a5:=KK (i:=m.to) (Ν:=m.Ν) (m:=m.ct) (B:=W.B) (nd:=W.nf) hK.tt h.ag h.gr hi hJ;have a3:=IU (i:=m.to) (Ν:=m.Ν) (m:=m.ct) (B:=W.B) (nd:=W.nf) (S:=(W.nd m.to).2) (by rw[e];exact hK.T);have A:=GM (c:=I4) (i:=m.to) (Ν:=m.Ν) (m:=m.ct) (B:=W.B) (nd:=W.nf) (S:=(W.nd m.to).2) (b0:=b0 m.to) (by rw[e];exact hK.S7) h.ag h.gr hi D (by rw[e];exact hK.np) (by rw[e];exact hK.hd) hT hJ (by rw[e];exact λk q=>by have:=r1 k q;omega) (by rw[e];exact λk q l T=>by have:=r5 k q l T;omega) (by rw[e];omega);rw[e] at a2 a4 a5 a3 A
 have a6:NH m.to I4 W.B (aX m.to m.Ν m.ct W.B (W.nd m.to).1 (W.nd m.to).2).2.1 (aX m.to m.Ν m.ct W.B (W.nd m.to).1 (W.nd m.to).2).2.2:=by
  by_cases q:m.ct.Ζ=5/\(m.ct.r,m.ct.ai)∈(W.nd m.to).1.wk
  .rw[FB q.1 q.2];exact hK.hd
  .refine KJ D h.B.2 hK.hd (λk=>hJ.ZF h.gr.lg k) (λk hp=>?_) (λk l T=>?_) D
   .have:=r1 k hp
    have hn:=hK.T;have:=um g R m.to (W.nd m.to).1 (W.nd m.to).2
    omega
   .have:=r5 k (λz=>q ⟨k,z⟩) l T
    omega
 obtain⟨fJ,eg,hP⟩:=h.put hi J (oN (Ν:=m.Ν) (B:=W.B) h.cv.cv.gh hN (f2:=m.Ν) hJ) (tg h.cv.hR hK.np (f2:=m.Ν) hJ) a2 a6 a3 a5 A;refine⟨fJ,eg,hP,?_⟩;rw[xt eg];refine aO (vp (u:=0) (w:=wt m) h.len hi ?_ ?_) (Nat.le_of_eq (dw _))
 .rw[ve hp,mP,Nat.add_comm]
 .rw[e,dw];exact a4
end
end
section
open Go.V
theorem nV{i Ν B:Int}{m:G4}{N:ω}{S:Τ}:∀y∈(aX i Ν m B N S).1,y.Ν=i/\m.Ζ<y.ct.Ζ/\y.ct.Ζ<=6:=by
 have nil:∀y∈([]:List fK),y.Ν=i/\m.Ζ<y.ct.Ζ/\y.ct.Ζ<=6:=jw;unfold aX;by_cases k1:m.Ζ=1
 .grind [D4,eM]
 rw[Ο k1];by_cases k2:m.Ζ=2
 .grind [D4,iv,eu]
 rw[Ο k2];by_cases k3:m.Ζ=3
 .rw[Ω k3];have hv:∀to r,(⟨i,to,D4 4 r 0 false⟩:fK).Ν=i/\m.Ζ<(⟨i,to,D4 4 r 0 false⟩:fK).ct.Ζ/\(⟨i,to,D4 4 r 0 false⟩:fK).ct.Ζ<=6:=λto r=>⟨rfl,by show m.Ζ<4;omega,by show(4:Int)<=6;decide⟩;unfold dq;cases hp:ε N.Γ m.r with
  | none=>exact λy U=>by rw[GO U];exact hv _ _
  | some p =>
   dsimp only;split
   .rw[iC];intro y U;rcases J4 U with U|U
    .obtain⟨o,_,rfl,_⟩:=(oF (f:=bY i m.r (if m.yes=true then 1 else 2) p.Κ B) (λo S=>oC o S) p.Α S).O y U;exact⟨rfl,by show m.Ζ<5;omega,by show(5:Int)<=6;decide⟩
    .rw[GO U];exact hv _ _
   .exact λy U=>by rw[GO U];exact hv _ _
 rw[Ο k3];by_cases k4:m.Ζ=4
 .rw[Ω k4];exact nil
 rw[Ο k4];by_cases k5:m.Ζ=5
 .grind [D4,dS]
 rw[Ο k5];by_cases k6:m.Ζ=6
 .rw[Ω k6];exact nil
 grind
theorem nW{α:Type}{P:fK->Prop}{f:α->ω->Τ->L6}:∀(l:List α) (N:ω) (S:Τ),(∀a∈l,∀N S,∀y∈(f a N S).1,P y)->∀y∈(bT f l N S).1,P y
 | [],_,_,_,y,U=>iJ U aH
 | a::l,N,S,h,y,U=>by
  rcases J4 U with U|U
  .grind
  .exact nW l _ _ ah y U
theorem yO{i B:Int}:∀(Ξ:Nat) (m:fK) (N:ω) (S:Τ),m.Ν=i->∀y∈(bH i B Ξ m N S).1,y.Ν=i/\y.to≠i
 | 0,_,_,_,_,y,U=>iJ (show y∈[] from U) ah
 | Ξ+1,m,N,S,hf,y,U=>by
  have e:bH i B (Ξ+1) m N S=if m.to≠i then([m],N,S) else bT (bH i B Ξ) (aX i m.Ν m.ct B N S).1 (aX i m.Ν m.ct B N S).2.1 (aX i m.Ν m.ct B N S).2.2:=rfl;rw[e] at U;by_cases ht:m.to≠i
  .rw[Ω ht] at U;rw[GO U];exact⟨hf,ht⟩
  .rw[Ο ht] at U;exact nW _ _ _ (λz hz N S=>yO Ξ z N S (nV z hz).1) y U
theorem vL{i B:Int}{l:List fK}{N:ω}{S:Τ}(h:∀m∈l,m.Ν=i):∀y∈(K6 i B l N S).1,y.Ν=i/\y.to≠i :=
 nW l N S λm hm N S=>yO 7 m N S (h m hm)
section
variable {J8:jA->Prop}{i:Int}
structure SH (J8:jA->Prop) (i:Int):Prop where
 len:∀W,J8 W->0<=i/\i<W.D8.length
 perm:∀W W' : jA,J8 W->W'.D8=W.D8->W'.B=W.B->W'.h1=W.h1->W'.O.Perm W.O->J8 W'
 hand:∀(W:jA) (m:fK) (cR:List fK),J8 W->W.O.Perm (m::cR)->m.to=i->m.Ν=i->J8 (W.put i (aX i m.Ν m.ct W.B (W.nd i).1 (W.nd i).2) cR)
theorem SH.same(h:SH J8 i){W:jA}{l cR:List fK}(hJ:J8 W)(hp:W.O.Perm (l++cR)):J8 (W.put i (l,(W.nd i).1,(W.nd i).2) cR):=by
 have T:=h.len W hJ;refine h.perm W _ hJ ?_ rfl rfl ?_
 .show W.D8.set i.toNat (W.nd i)=W.D8;grind [jA.nd,eC]
 .exact List.perm_append_comm.trans hp.symm
theorem jL{W:jA}{Δ:L6}{cR:List fK}(hi:0<=i/\i<W.D8.length):(W.put i Δ cR).nd i=(Δ.2.1,Δ.2.2):=by rw[ul hi hi,Ω rfl]
def WK(i:Int)(Ξ:Nat)(m:fK):Prop:=m.Ν=i/\1<=Ξ/\(m.to=i->7<=m.ct.Ζ+Ξ)
theorem qH(h:SH J8 i){Ξ:Nat}(hp:∀(m:fK) (cR:List fK) (W:jA),J8 W->W.O.Perm (m::cR)->WK i Ξ m->J8 (W.put i (bH i W.B Ξ m (W.nd i).1 (W.nd i).2) cR)):∀(l cR:List fK) (W:jA),J8 W->W.O.Perm (l++cR)->(∀y∈l,WK i Ξ y)->J8 (W.put i (bT (bH i W.B Ξ) l (W.nd i).1 (W.nd i).2) cR)
 | [],cR,W,hJ,hm,_=>h.same hJ hm
 | a::l,cR,W,hJ,hm,hk=>by
  have I:=hp a (l++cR) W hJ hm ah;have T:=h.len W hJ;obtain⟨Δ,er⟩:∃Δ,bH i W.B Ξ a (W.nd i).1 (W.nd i).2=Δ:=⟨_,rfl⟩;rw[er] at I
  have Q:=qH h hp l (cR++Δ.1) (W.put i Δ (l++cR)) I (by
   show((l++cR)++Δ.1).Perm _;grind) ah
  grind [jL,oJ,bT,jA.put]
def wx(h:SH J8 i):∀(Ξ:Nat) (m:fK) (cR:List fK) (W:jA),J8 W->W.O.Perm (m::cR)->WK i Ξ m->J8 (W.put i (bH i W.B Ξ m (W.nd i).1 (W.nd i).2) cR)
 | 0,_,_,_,_,_,hk=>iJ hk.2.1 ac
 | Ξ+1,m,cR,W,hJ,hm,hk=>by
  have T:=h.len W hJ;have e:bH i W.B (Ξ+1) m (W.nd i).1 (W.nd i).2=if m.to≠i then([m],(W.nd i).1,(W.nd i).2) else bT (bH i W.B Ξ) (aX i m.Ν m.ct W.B (W.nd i).1 (W.nd i).2).1 (aX i m.Ν m.ct W.B (W.nd i).1 (W.nd i).2).2.1 (aX i m.Ν m.ct W.B (W.nd i).1 (W.nd i).2).2.2:=rfl;rw[e];by_cases ht:m.to≠i
  .rw[Ω ht];exact h.same hJ hm
  rw[Ο ht];have ht:m.to=i:=Classical.byContradiction ht;have I:=h.hand W m cR hJ hm ht hk.1;have ho:=nV (i:=i) (Ν:=m.Ν) (m:=m.ct) (B:=W.B) (N:=(W.nd i).1) (S:=(W.nd i).2);generalize aX i m.Ν m.ct W.B (W.nd i).1 (W.nd i).2=Δ at I ho ⊢
  have Q:=qH h (wx h Ξ) Δ.1 cR (W.put i Δ cR) I fC λy U=>by
   obtain⟨q1,q2,q3⟩:=ho y U;have:=hk.2.2 ht
   exact⟨q1,D,λ_=>D⟩
  rw[jL T,oJ] at Q;exact Q
def sW(h:SH J8 i){l cR:List fK}{W:jA}(hJ:J8 W)(hm:W.O.Perm (l++cR))(hk:∀y∈l,y.Ν=i/\0<=y.ct.Ζ):J8 (W.put i (K6 i W.B l (W.nd i).1 (W.nd i).2) cR) :=
 qH h (wx h 7) l cR W hJ hm λy U=>⟨(hk y U).1,by decide,λ_=>by have:=(hk y U).2;omega⟩
