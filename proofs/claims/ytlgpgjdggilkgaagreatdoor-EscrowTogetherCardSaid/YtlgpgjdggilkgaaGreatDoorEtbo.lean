/- Lemmas. -/
import Derived.Test.YtlgpgjdggilkgaaGreatDoorEtbn
set_option linter.all false
namespace Go.Proofs.YtlgpgjdggilkgaaGreatDoor
section
open Go.V
theorem nX{α:Type}{f:α->Int}{l l' : List α}(h:l.Perm l'):(l.map f).sum=(l'.map f).sum:=by
 induction h with
 | nil=>rfl
 | cons x _ ih=>grind
 | swap x y l=>grind
 | trans _ _ K T=>omega
def Rb(i st a x:Int)(o:hy):Int:=(if ¬(st=2/\o.state=2)/\a=o.Υ.fr then - NS x o.Υ.am else 0)+(if(st=1/\o.state=2/\o.Υ.ts=i)/\a=o.Υ.to then NS x o.Υ.am else 0)
def jn(i st a x:Int)(os:List hy):Int:=(os.map (Rb i st a x)).sum
theorem mG(i st a x:Int)(o:hy)(os:List hy):jn i st a x (o::os)=Rb i st a x o+jn i st a x os:=by grind [jn]
def dQ(i a x:Int)(p:NF):Int:=jn i p.state a x p.Z+(if a=p.Ι then gw x p.Z else 0)
def dP(i a x:Int)(p:Int×NF):Int:=dQ i a x p.2
def dR(g:Gh)(a x:Int)(k:Int×Int):Int:=match g.Υ k with
 | some l=>if a=l.to then NS x l.am else 0
 | none=>0
def Pz(g:Gh)(i:Int)(N:υ)(a x:Int):Int:=(N.Β.map (dP i a x)).sum+(N.sh.map (dR g a x)).sum
def zK{g ew : Gh}(h:ew.Α=g.Α)(i:Int)(N:υ)(a x:Int):Pz ew i N a x=Pz g i N a x:=by
 unfold Pz;rw[show dR ew a x=dR g a x from funext λk=>by unfold dR;rw[lj h]]
theorem tu{g:Gh}{i A c a x:Int}{N:υ}{p q:NF}(hn:(N.Β.map (·.1)).Nodup)(h:ζ N.Β A=some p):Pz g i { N with U:=c,Β:=cZ N.Β A q } a x=Pz g i N a x - dQ i a x p+dQ i a x q:=by
 have K:=nX (f:=dP i a x) (qT (k:=A) (a:=q) hn);have T:=nX (f:=dP i a x) (mf hn h);grind [Pz,dP]
theorem tv{g:Gh}{i A c a x:Int}{N:υ}{q:NF}(h:ζ N.Β A=none):Pz g i { N with U:=c,Β:=cZ N.Β A q } a x=Pz g i N a x+dQ i a x q:=by
 grind [Pz,pR,dP]
def Tc(b0:Int->Int->Int)(g:Gh)(i:Int)(N:υ)(S:Ρ):Prop:=∀a x,a≠0->aY (S.ν a x)=b0 a x+Pz g i N a x
theorem zA{i a x Ι:Int}:∀{os:List hy},(∀o∈os,o.state=0)->gD a x (dy Ι os) - Og a x (dy Ι os)=jn i 0 a x os+(if a=Ι then gw x os else 0)
 | [],_=>by
  show(0:Int) - 0=0+(if a=Ι then 0 else 0);omega
 | o::os,h=>by
  have T:=h o aj;have ih:=zA (i:=i) (a:=a) (x:=x) (Ι:=Ι) (os:=os) aj;have e:dy Ι (o::os)=B2 o.Υ.fr Ι o.Υ.am++dy Ι os:=by unfold dy;rw[aT]
  have e2:Rb i 0 a x o=(if a=o.Υ.fr then - NS x o.Υ.am else 0):=by
   unfold Rb;rw[Ν (show ¬(((0:Int)=1/\o.state=2/\o.Υ.ts=i)/\a=o.Υ.to) from λq=>hD q.1.1 ae),dC];by_cases q:a=o.Υ.fr
   .omega
   .omega
  have O:gZ x o=NS x o.Υ.am:=Χ T;rw[e,yR,wx,ma,mI,mG,e2,iU,O];grind [NS]
theorem CL{a x to:Int}(ha:a≠0):∀(am:List (Int×Int)) (gR:List Int),gR.length=am.length->Og a x (G7 to am gR)=0/\gD a x (G7 to am gR)=if a=to then NS x am else 0
 | [],_,_=>⟨rfl,by show(0:Int)=if a=to then 0 else 0;omega⟩
 | _::_,[],h=>by cases h
 | p::am,j::gR,h=>by
  obtain⟨K,T⟩:=CL (a:=a) (x:=x) (to:=to) ha am gR aj
  have e1:Og a x (G7 to (p::am) (j::gR))=(if a=0 then(if x=p.1 then p.2 else 0) else 0)+Og a x (G7 to am gR):=by
   unfold Og G7;rw[List.zip_cons_cons,aq,aq,aS];rfl
  have e2:gD a x (G7 to (p::am) (j::gR))=(if a=to then(if x=p.1 then p.2 else 0) else 0)+gD a x (G7 to am gR):=by
   unfold gD G7;rw[List.zip_cons_cons,aq,aq,aS];rfl
  grind [NS]
def oq(i st Ι a x:Int)(o:hy):Int:=Rb i st a x o+(if a=Ι then gZ x o else 0)
def RL(i st Ι a x:Int)(os:List hy):Int:=jn i st a x os+(if a=Ι then gw x os else 0)
theorem yS(i st Ι a x:Int)(o:hy)(os:List hy):RL i st Ι a x (o::os)=oq i st Ι a x o+RL i st Ι a x os:=by
 grind [RL,oq,mG,iU]
theorem Fz{i A st Ι E:Int}{c:B0}(B:0<=i/\i<12){o:hy}{S:Ρ}(h:P5 i c S)(hk:dg S+dW o<=2000)(M:st=1\/st=2){a x:Int}(ha:a≠0):aY ((bV i A st Ι E o S).2.2.ν a x)=aY (S.ν a x) - oq i st Ι a x o+oq i st Ι a x (bV i A st Ι E o S).2.1:=by
 unfold bV;by_cases h0:o.state≠0
 .grind
 rw[Ν h0];have h0:o.state=0:=D;have hk:dg S+o.Υ.am.length<=2000:=by rw[show dW o=o.Υ.am.length from Χ h0] at hk;exact hk
 have e0:oq i st Ι a x o=(if a=o.Υ.fr then - NS x o.Υ.am else 0)+(if a=Ι then NS x o.Υ.am else 0):=by
  have O:gZ x o=NS x o.Υ.am:=Χ h0;unfold oq Rb;rw[Ν (show ¬((st=1/\o.state=2/\o.Υ.ts=i)/\a=o.Υ.to) from λq=>by have:=q.1.2.1;omega),dC,O];congr 1;by_cases q:a=o.Υ.fr
  .omega
  .omega
 have hz:∀o' : hy,o'.state≠0->oq i st Ι a x o' = Rb i st a x o':=by grind [gZ,oq]
 by_cases K:st=1/\o.Υ.ts≠i
 .rw[Χ K];by_cases T:E6 S 6 E (B2 Ι 0 o.Υ.am)=true
  .grind [rQ,Rb]
  grind
 rw[Ν K];obtain⟨t,a2⟩:∃t,(if st=2 then o.Υ.fr else o.Υ.to)=t:=⟨_,rfl⟩;rw[a2];by_cases T:E6 S 2 E (B2 Ι t o.Υ.am)=true
 .rw[Χ T];dsimp only;rw[rQ B h hk T a x ha,e0,hz _ aj];rcases M with rfl|rfl
  .grind [Rb]
  grind [Rb]
 grind
theorem sL{i A st Ι E:Int}{c:B0}{f:hy->Ρ->List eU×hy×Ρ}(hf:f=bV i A st Ι E\/f=B8 i A st Ι E)(B:0<=i/\i<12)(M:st=1\/st=2){a x:Int}(ha:a≠0):∀(os:List hy) (S:Ρ),QU i c E S->dg S+cl os<=2000->aY ((xs f os S).2.2.ν a x)=aY (S.ν a x) - RL i st Ι a x os+RL i st Ι a x (xs f os S).2.1
 | [],S,_,_=>by
  show aY (S.ν a x)=aY (S.ν a x) - RL i st Ι a x []+RL i st Ι a x [];omega
 | o::os,S,h,hk=>by
  have ek:cl (o::os)=dW o+cl os:=by unfold cl;rw[aq,aS]
  have K:(aY ((f o S).2.2.ν a x)=aY (S.ν a x) - oq i st Ι a x o+oq i st Ι a x (f o S).2.1)/\QU i c E (f o S).2.2/\dg (f o S).2.2+dW (f o S).2.1<=dg S+dW o:=by
   have hw:=Fz (A:=A) (Ι:=Ι) (E:=E) B (o:=o) h.rep D M ha (x:=x);have U:=xA (A:=A) (bI:=st) (Ι:=Ι) (o:=o) h;have hp:=nc (d:=i) (A:=A) (bI:=st) (Ι:=Ι) (E:=E) (o:=o) (S:=S);rcases hf with rfl|rfl
   .grind
   .grind [B8]
  have ih:=sL hf B M ha (x:=x) os (f o S).2.2 K.2.1 D;show aY ((xs f os (f o S).2.2).2.2.ν a x)=aY (S.ν a x) - RL i st Ι a x (o::os)+RL i st Ι a x ((f o S).2.1::(xs f os (f o S).2.2).2.1);rw[ih,K.1,yS,yS];omega
def Hy{i a x st Ι:Int}:dQ i a x ⟨st,Ι,[]⟩=0:=by
 show(0:Int)+(if a=Ι then 0 else 0)=0;omega
def yU{i st a x:Int}:∀{os:List hy},(∀o∈os,o.state=0)->jn i 0 a x os=jn i st a x os
 | [],_=>rfl
 | o::os,h=>by
  rw[mG,mG,yU (st:=st) λy Y=>h y (az _ Y)];have h0:=h o aA;congr 1;unfold Rb;rw[h0];congr 1
  .by_cases q:a=o.Υ.fr
   .rw[Χ ⟨λz=>hD z.2 ae,q⟩,Χ ⟨λz=>hD z.2 ae,q⟩]
   .rw[Ν λz=>q z.2,Ν λz=>q z.2]
  .rw[Ν λz=>hD z.1.2.1 ae,Ν λz=>hD z.1.2.1 ae]
theorem IH{nd:Nk}{i A st a x ω:Int}{o:hy}(h:U6 nd i A st o):Rb i st a x (eY ω o)=Rb i st a x o:=by
 unfold eY;split
 .rename_i q;obtain⟨s1,s2,_⟩:=h.s1 q.2;grind [Rb]
 .rfl
section
variable {G:Int}{g:Gh}{nd:Nk}{Q:List eU}{i Λ E A:Int}{m:G3}{S:Ρ}{b0:Int->Int->Int}{c:B0}
def Tc.bg{N:υ}(h:Tc b0 g i N S){μ:Int}{b:List (Int×K6)}:Tc b0 g i { N with μ:=μ,Φ:=b } S:=h
theorem GX(hB:Tc b0 g i (nd i) S)(hA:PY G g nd Q)(hR:Qk G g)(hi:0<=i/\i<G)(a6:G<=12)(hn:((nd i).Β.map (·.1)).Nodup)(hH:N0 i c E (nd i) S)(hm:Ph G g nd ⟨Λ,i,m⟩)(hJ:L5 g ⟨Λ,i,m⟩)(K:m.Δ=1->ζ (nd i).Β m.A=none->dg S+cl (B3 i 0 m.Z)<=2000)(h5:m.Δ=5->(m.A,m.ω)∉(nd i).sh->∀l∈m.Z,dg S+2*l.am.length<=2000)(hk:dg S+F0 (nd i)<=2000):Tc b0 g i (be i Λ m E (nd i) S).2.1 (be i Λ m E (nd i) S).2.2:=by
 have a2:0<=i/\i<12:=D;have a7:=hH.U;unfold be;by_cases k1:m.Δ=1
 .rw[Χ k1];unfold eN;cases hp:ζ (nd i).Β m.A with
  | some p=>exact hB
  | none =>
   dsimp only;by_cases B:E6 S 2 E (dy (268435456+(nd i).U) (B3 i 0 m.Z))=true
   .rw[Χ B];intro a x ha;have a3:∀o∈B3 i 0 m.Z,o.state=0:=λo ho=>(iX ho).2.2;have q:=lB a2 hH.ld.rep (s:=H7 2 E (dy (268435456+(nd i).U) (B3 i 0 m.Z))) (by show dg S+C5 (dy (268435456+(nd i).U) (B3 i 0 m.Z))<=2000;rw[kL _ _ a3];exact K k1 hp) (kN B) a x D;have q2:=zA (i:=i) (a:=a) (x:=x) (Ι:=268435456+(nd i).U) a3;have q3:=hB a x ha;have q4:=tv (g:=g) (i:=i) (c:=(nd i).U+1) (a:=a) (x:=x) (q:=⟨0,268435456+(nd i).U,B3 i 0 m.Z⟩) hp;grind [H7,dQ]
   .rw[Ν B];intro a x ha;have q4:=tv (g:=g) (i:=i) (c:=(nd i).U) (a:=a) (x:=x) (q:=⟨3,268435456+(nd i).U,[]⟩) hp;have e:dQ i a x ⟨3,268435456+(nd i).U,[]⟩=0:=Hy;rw[e,dC] at q4;show _=b0 a x+Pz g i { nd i with U:=(nd i).U,Β:=cZ (nd i).Β m.A ⟨3,268435456+(nd i).U,[]⟩ } a x;rw[q4];exact hB a x ha
 rw[Ν k1];by_cases k2:m.Δ=2
 .rw[Χ k2];unfold em;cases O:ζ (nd i).Φ m.A with
  | none=>exact hB
  | some x =>
   dsimp only;split
   .exact hB
   split
   .exact hB
   split
   .exact hB
   .exact hB
 rw[Ν k2];by_cases k3:m.Δ=3
 .rw[Χ k3];unfold dt;cases hp:ζ (nd i).Β m.A with
  | none =>
   intro a x ha;have q4:=tv (g:=g) (i:=i) (c:=(nd i).U) (a:=a) (x:=x) (q:=⟨3,0,[]⟩) hp;have e:dQ i a x ⟨3,0,[]⟩=0:=Hy;rw[e,dC] at q4;show _=b0 a x+Pz g i { nd i with U:=(nd i).U,Β:=cZ (nd i).Β m.A ⟨3,0,[]⟩ } a x;rw[q4];exact hB a x ha
  | some p =>
   have hT:=hA.pt i hi _ _ hp;dsimp only;by_cases h0:p.state=0
   .rw[Χ h0,iB];have a5:(if m.yes=true then(1:Int) else 2)=1\/(if m.yes=true then(1:Int) else 2)=2:=by split<;>simp
    generalize (if m.yes=true then(1:Int) else 2)=st at *;intro a x ha;have q4:=tu (g:=g) (i:=i) (c:=(nd i).U) (a:=a) (x:=x) (q:=⟨st,p.Ι,(xs (bV i m.A st p.Ι E) p.Z S).2.1⟩) hn hp;have a4:∀o∈p.Z,o.state=0:=λo ho=>(hT.ow o ho).s0 h0
    have eP:dQ i a x p=RL i st p.Ι a x p.Z:=by
     unfold dQ RL;rw[h0,yU (st:=st) a4]
    have eQ:dQ i a x ⟨st,p.Ι,(xs (bV i m.A st p.Ι E) p.Z S).2.1⟩=RL i st p.Ι a x (xs (bV i m.A st p.Ι E) p.Z S).2.1:=rfl;rw[eP,eQ] at q4;show aY ((xs (bV i m.A st p.Ι E) p.Z S).2.2.ν a x)=b0 a x+Pz g i { nd i with U:=(nd i).U,Β:=cZ (nd i).Β m.A ⟨st,p.Ι,(xs (bV i m.A st p.Ι E) p.Z S).2.1⟩ } a x;rw[q4];have q3:=hB a x ha;by_cases U:p.Z=[]
    .grind [xs]
    .have b1:=lA (bQ hp);have q:=sL (.inl rfl) a2 (A:=m.A) (Ι:=p.Ι) a5 ha (x:=x) p.Z S hH.ld aj;omega
   grind
 rw[Ν k3];by_cases k4:m.Δ=4
 .rw[Χ k4];unfold gc υ.J1;cases O:ζ (nd i).Φ m.A with
  | none=>exact hB
  | some x=>exact hB
 rw[Ν k4];by_cases k5:m.Δ=5
 .rw[Χ k5];obtain⟨⟨l,l1,l2,l3,l4,l5,l6⟩,hP⟩:=hm.tr k5;have l1:g.Υ (m.A,m.ω)=some l:=l1;have l5:m.Z=[l]:=l5;have a9:=hR.Υ l1;unfold dU;split
  .exact hB
  rename_i hr;split
  .rename_i M;split
   .rename_i B;have e:m.Z[0]! = l:=by rw[l5];rfl
    rw[e] at B M ⊢;intro a x ha;have q:=lB a2 hH.ld.rep (s:=H7 5 E (G7 l.to l.am m.Κ)) (by show dg S+C5 (G7 l.to l.am m.Κ)<=2000;grind [kC]) (kN B) a x D;obtain⟨i1,i2⟩:=CL (a:=a) (x:=x) (to:=l.to) D l.am m.Κ M.2;rw[show(H7 5 E (G7 l.to l.am m.Κ)).fe=G7 l.to l.am m.Κ from rfl,i1,i2] at q;have q3:=hB a x ha;grind [Pz,dR]
   .exact hB
  .exact hB
 rw[Ν k5];by_cases k6:m.Δ=6
 .rw[Χ k6];unfold O4 υ.K7;cases hp:ζ (nd i).Β m.A with
  | none=>exact hB
  | some p =>
   have hT:=hA.pt i hi _ _ hp;dsimp only;intro a x ha;have q4:=tu (g:=g) (i:=i) (c:=(nd i).U) (a:=a) (x:=x) (q:=⟨p.state,p.Ι,p.Z.map (eY m.ω)⟩) hn hp
   have e:dQ i a x ⟨p.state,p.Ι,p.Z.map (eY m.ω)⟩=dQ i a x p:=by
    have e1:jn i p.state a x (p.Z.map (eY m.ω))=jn i p.state a x p.Z:=by
     unfold jn;rw[co];exact congrArg List.sum (aV λo ho=>IH (hT.ow o ho))
    have e2:gw x (p.Z.map (eY m.ω))=gw x p.Z:=by
     unfold gw;rw[co];refine congrArg List.sum (aV λo _=>?_);show gZ x (eY m.ω o)=gZ x o;unfold eY;split
     .grind [gZ]
     .rfl
    unfold dQ;dsimp only;rw[e1,e2]
   rw[e] at q4;show _=b0 a x+Pz g i { nd i with U:=(nd i).U,Β:=cZ (nd i).Β m.A ⟨p.state,p.Ι,p.Z.map (eY m.ω)⟩ } a x;rw[q4];have q3:=hB a x ha;omega
 grind
theorem JC(hB:Tc b0 g i (nd i) S)(hi:0<=i/\i<G)(a2:G<=12)(hn:((nd i).Β.map (·.1)).Nodup)(hH:N0 i c E (nd i) S)(hk:dg S+F0 (nd i)<=2000):Tc b0 g i (K8 i E A (nd i) S).2.1 (K8 i E A (nd i) S).2.2:=by
 have B:0<=i/\i<12:=D;unfold K8;cases hp:ζ (nd i).Β A with
 | none=>exact hB
 | some p =>
  dsimp only;split
  .rename_i M;intro a x ha;have q4:=tu (g:=g) (i:=i) (c:=(nd i).U) (a:=a) (x:=x) (q:=⟨p.state,p.Ι,(xs (B8 i A p.state p.Ι E) p.Z S).2.1⟩) hn hp;have eP:dQ i a x p=RL i p.state p.Ι a x p.Z:=rfl;have eQ:dQ i a x ⟨p.state,p.Ι,(xs (B8 i A p.state p.Ι E) p.Z S).2.1⟩=RL i p.state p.Ι a x (xs (B8 i A p.state p.Ι E) p.Z S).2.1:=rfl;rw[eP,eQ] at q4;show aY ((xs (B8 i A p.state p.Ι E) p.Z S).2.2.ν a x)=b0 a x+Pz g i { nd i with U:=(nd i).U,Β:=cZ (nd i).Β A ⟨p.state,p.Ι,(xs (B8 i A p.state p.Ι E) p.Z S).2.1⟩ } a x;rw[q4];have q3:=hB a x ha;by_cases U:p.Z=[]
   .grind [xs]
   .have a3:=lA (bQ hp);have q:=sL (.inr rfl) B (A:=A) (Ι:=p.Ι) M ha (x:=x) p.Z S hH.ld aj;omega
  .exact hB
end
end
section
open Go.V
def Ss(S:Ρ):Prop:=∀x,S.id x<=40*((dg S:Int)+8)
theorem FM{x:Int}:∀{iL:List E3},(∀f∈iL,0<=f.n/\f.n<=40)->R8 x iL<=40*(iL.length:Int)
 | [],_=>bE 0
 | f::iL,h=>by
  have ih:=FM (x:=x) λf hf=>h f (az _ hf);have h0:=h f aj;rw[xW,aK];grind [V9,VA]
def JT{k:Int}:∀{Q:List A8} {A:Int} {iL:List E3},Ta k A Q iL->∀f∈iL,∃m∈Q,f.n=m.n
 | [],_,_,h,f,hf=>by rw[show _=[] from h] at hf;cases hf
 | m::Q,A,_,⟨g,F',K,T,h3⟩,f,hf=>by
  rw[K] at hf;rcases Nj hf with rfl|hf
  .exact⟨m,aA,T.2.2.2.1⟩
  .obtain⟨y,q2,q3⟩:=JT h3 f hf;exact⟨y,az _ q2,q3⟩
theorem Ss.TC{S:Ρ}(h:Ss S){Δ E:Int}{Q:List A8}(B:E6 S Δ E Q=true)(hk:¬(Δ=4\/Δ=10\/Δ=7\/Δ=9))(hm:∀m∈Q,0<=m.n/\m.n<=40):Ss (L4 S Δ E Q):=λx=>by
 have h0:=kN B;obtain⟨iL,f1,f2,f3,_⟩:=vj h0 hk;have q:=f3 x;have O:=h x;have U:=oX f2
 have K:=FM (x:=x) λf hf=>by
  obtain⟨m,q1,q2⟩:=JT f2 f hf;rw[q2];exact hm m q1
 grind [rF,H7,ny]
theorem yZ{f t:Int}{am:List (Int×Int)}(h:SN am)(T:∀p∈am,p.2<=12):∀m∈B2 f t am,0<=m.n/\m.n<=40:=λm hm=>by
 obtain⟨p,hp,rfl⟩:=H9 hm;have q:=(h.2 p hp).2;grind
def Mm{to:Int}{am:List (Int×Int)}{fl:List Int}(h:SN am)(T:∀p∈am,p.2<=12):∀m∈G7 to am fl,0<=m.n/\m.n<=40:=λm hm=>by
 obtain⟨p,hp,rfl⟩:=H9 hm;have hp:=(fP hp).1;have q:=(h.2 p.1 hp).2;have q2:=T p.1 hp;show 0<=p.1.2/\p.1.2<=40;omega
theorem Kc{i A st Ι E:Int}{o:hy}{S:Ρ}(h:Ss S)(ho:SN o.Υ.am/\∀p∈o.Υ.am,p.2<=12):Ss (bV i A st Ι E o S).2.2:=by
 unfold bV;by_cases h0:o.state≠0
 .grind
 rw[Ν h0];by_cases K:st=1/\o.Υ.ts≠i
 .rw[Χ K];by_cases T:E6 S 6 E (B2 Ι 0 o.Υ.am)=true
  .rw[Χ T];exact h.TC T ae (yZ ho.1 ho.2)
  grind
 rw[Ν K];generalize (if st=2 then o.Υ.fr else o.Υ.to)=t;by_cases T:E6 S 2 E (B2 Ι t o.Υ.am)=true
 .rw[Χ T];exact h.TC T ae (yZ ho.1 ho.2)
 grind
theorem FQ{i A st Ι E:Int}:∀(os:List hy) (S:Ρ),Ss S->(∀o∈os,SN o.Υ.am/\∀p∈o.Υ.am,p.2<=12)->Ss (xs (bV i A st Ι E) os S).2.2
 | [],S,h,_=>h
 | o::os,S,h,ho=>FQ os _ (Kc h aj) aj
def HK{i A st Ι E:Int}:∀(os:List hy) (S:Ρ),(∀o∈os,o.state≠0)->(xs (B8 i A st Ι E) os S).2=(os,S)
 | [],S,_=>rfl
 | o::os,S,h=>by
  have e:(B8 i A st Ι E o S).2=(o,S):=by
   unfold B8 bV;split
   .rfl
   .rw[Χ (h o aA)]
  have ih:=HK (i:=i) (A:=A) (st:=st) (Ι:=Ι) (E:=E) os S λy Y=>h y (az _ Y);show((B8 i A st Ι E o S).2.1::(xs (B8 i A st Ι E) os (B8 i A st Ι E o S).2.2).2.1,(xs (B8 i A st Ι E) os (B8 i A st Ι E o S).2.2).2.2)=(o::os,S);rw[e];dsimp only;rw[ih]
section
variable {G:Int}{g:Gh}{nd:Nk}{Q:List eU}{i Λ E A:Int}{m:G3}{S:Ρ}{b0:Int->Int->Int}{c:B0}
def L5.small(hJ:L5 g ⟨Λ,i,m⟩)(hR:Qk G g)(hk:m.Δ=1\/m.Δ=5):∀l∈m.Z,RJ G l:=λl U=>by
 rcases hk with k|k
 .exact(hR _ _ (hJ.pr k)).2 l U
 .obtain⟨l',q1,q2,_⟩:=hJ.tr k;have q2:m.Z=[l']:=q2;rw[q2] at U;rw[F6 U];exact hR.Υ q1
def RJ.sm{l:lu}(h:RJ G l):SN l.am/\∀p∈l.am,p.2<=12:=⟨h.h.am,h.am⟩
theorem Ld(hT:Ss S)(hA:PY G g nd Q)(hR:Qk G g)(hi:0<=i/\i<G)(hJ:L5 g ⟨Λ,i,m⟩):Ss (be i Λ m E (nd i) S).2.2:=by
 unfold be;by_cases k1:m.Δ=1
 .rw[Χ k1];unfold eN;cases hp:ζ (nd i).Β m.A with
  | some p=>exact hT
  | none =>
   dsimp only;by_cases B:E6 S 2 E (dy (268435456+(nd i).U) (B3 i 0 m.Z))=true
   .rw[Χ B];refine hT.TC B ae λy Y=>?_;obtain⟨o,ho,Y⟩:=List.mem_flatMap.1 Y;obtain⟨⟨_,q⟩,_,_⟩:=iX ho;have hs:=(hJ.small hR (.inl k1) _ (List.mem_of_getElem? q)).sm;exact yZ hs.1 hs.2 y Y
   grind
 rw[Ν k1];by_cases k2:m.Δ=2
 .grind [em]
 rw[Ν k2];by_cases k3:m.Δ=3
 .rw[Χ k3];unfold dt;cases hp:ζ (nd i).Β m.A with
  | none=>exact hT
  | some p =>
   have hP:=hA.pt i hi _ _ hp;dsimp only;split
   .rw[iB];exact FQ _ _ hT λo ho=>(hR.Υ (hP.Υ ho).1).sm
   .exact hT
 rw[Ν k3];by_cases k4:m.Δ=4
 .grind [gc]
 rw[Ν k4];by_cases k5:m.Δ=5
 .rw[Χ k5];unfold dU;split
  .exact hT
  split
  .rename_i U;split
   .rename_i B;have hs:=(hJ.small hR (.inr k5) _ (bA (by omega:0<m.Z.length))).sm;exact hT.TC B ae (Mm hs.1 hs.2)
   .exact hT
  .exact hT
 grind [O4]
theorem Jf(h:(nd i).U<=dg S):(be i Λ m E (nd i) S).2.1.U<=dg (be i Λ m E (nd i) S).2.2:=by
 unfold be;by_cases k1:m.Δ=1
 .rw[Χ k1];unfold eN;grind [E6,ny,tx,rF]
 rw[Ν k1];by_cases k2:m.Δ=2
 .grind [em]
 rw[Ν k2];by_cases k3:m.Δ=3
 .grind [dt,uY]
 rw[Ν k3];by_cases k4:m.Δ=4
 .grind [gc,υ.J1]
 grind [dU,uz,O4,υ.K7]
theorem HH:∀{am:List (Int×Int)},(∀p∈am,p.2<=12)->(am.map (·.2)).sum<=12*(am.length:Int)
 | [],_=>bE 0
 | p::am,h=>by
  have K:=HH λq hq=>h q (az _ hq);grind
theorem Ml{N:υ}(hg:Nz g)(hN:Ni g i N S)(hH:N0 i c E N S)(hT:Ss S)(hR:Qk G g)(hi:0<=i/\i<G)(a9:G<=12)(hm:Ph G g nd ⟨Λ,i,m⟩)(hJ:L5 g ⟨Λ,i,m⟩)(hk:m.Δ=5)(hr:(m.A,m.ω)∉N.sh)(hb:∀l∈m.Z,dg S+2*l.am.length<=2000)(ht:E<=1099511627776):(m.Z.length=1/\m.Κ.length=m.Z[0]!.am.length)/\E6 S 5 E (G7 m.Z[0]!.to m.Z[0]!.am m.Κ)=true:=by
 obtain⟨⟨l,l1,l2,l3,l4,l5,l6⟩,_⟩:=hm.tr hk;have l1:g.Υ (m.A,m.ω)=some l:=l1;have l2:l.d=Λ:=l2;have l3:l.ts=i:=l3;have l4:Λ≠i:=l4;have l5:m.Z=[l]:=l5;have l6:m.Κ.length=l.am.length:=l6;obtain⟨l',p1,_,_,p4⟩:=hJ.tr hk;have p4:g.X (m.A,m.ω)=some m.Κ:=p4;have e:m.Z[0]! = l:=by rw[l5];rfl
 have B:=hR.Υ l1;have a3:=hb l aj;refine⟨⟨by rw[l5];rfl,aj⟩,?_⟩;rw[e];obtain⟨a6,x1,x2,x3⟩:=hg.xl _ _ p4;have el:a6 = l:=aj;have b1:=B.h.to;have b0:=B.d;have a4:=B.len;have a5:=HH B.am;refine Ja D hH.ld.rep hH.ld.π hN.ls.K1.W3 a3 ⟨hH.ld.now,ht⟩ B.h.am l6 x3 (λz hz=>?_) (λx=>?_) D
 .have q:=x2 z hz;rw[el] at q;refine⟨D,D,λy Y e2=>?_⟩;rw[hN.ls.imp] at Y;obtain⟨k',a2,Y⟩:=List.mem_flatMap.1 Y;obtain⟨b2,a7,r1,_,r3⟩:=hN.ls.rc k' a2;rw[jX r1 r3] at Y;obtain⟨p,hp,rfl⟩:=H9 Y;have M:=(fP hp).2;have e2:p.2=z:=e2;rw[e2] at M;exact hg.W4 _ _ _ _ p4 r3 aj z hz M
 .have q:=hT x;omega
structure ZY (b0:Int->Int->Int) (g:Gh) (i E:Int) (N:υ) (S:Ρ):Prop where
 np:(N.Β.map (·.1)).Nodup
 hd:N0 i I6 E N S
 U:N.U<=dg S
 tt:Ss S
 TE:Tc b0 g i N S
end
end
section
open Go.V
def iK.nf(W:iK):Nk:=λi=>if 0<=i/\i<W.E7.length then(W.nd i).1 else⟨0,0,[],[],[]⟩
def iK.put(W:iK)(i:Int)(r:L8)(cN:List eU):iK:={ W with E7:=W.E7.set i.toNat (r.2.1,r.2.2),Q:=cN++r.1 }
theorem EG{W:iK}{i:Int}(h:0<=i/\i<W.E7.length):W.nf i=(W.nd i).1:=Χ h
theorem uj{W:iK}{i j:Int}{r:L8}{cN:List eU}(hi:0<=i/\i<W.E7.length)(hj:0<=j/\j<W.E7.length):(W.put i r cN).nd j=if j=i then(r.2.1,r.2.2) else W.nd j:=yW (W:=W) (G:=W.E7.length) rfl hi hj
theorem vh{W:iK}{i:Int}{r:L8}{cN:List eU}:(W.put i r cN).E7.length=W.E7.length:=bT
theorem jO{W:iK}{i:Int}{r:L8}{cN:List eU}(hi:0<=i/\i<W.E7.length):(W.put i r cN).nf=Pq W.nf i r.2.1:=by grind [iK.nf,vh,Pq,uj]
theorem oP{W:iK}{i:Int}{r r2:L8}{cN B:List eU}:(W.put i r cN).put i r2 B=W.put i r2 B:=by
 grind [iK.put,List.set_set]
theorem qf{f f' : Nat->Nat}{k:Nat}:∀{n:Nat},k<n->(∀j,j≠k->f' j=f j)->((List.range n).map f').sum+f k=((List.range n).map f).sum+f' k
 | 0,h,_=>D
 | n+1,h,hj=>by
  have e:∀q:Nat->Nat,((List.range (n+1)).map q).sum=((List.range n).map q).sum+q n:=by grind [dc]
  rw[e,e];by_cases q:k=n
  .grind [aV]
  .have ih:=qf (n:=n) D hj;grind
def PN(g:Gh)(R:List Int)(G:Int)(W:iK):Nat:=wS W.Q+((List.range G.toNat).map λj:Nat=>N8 g R (j:Int) (W.nf j)).sum
theorem MO{g ew : Gh}(h:ew.Α=g.Α)(R:List Int)(i:Int)(N:υ):N8 ew R i N=N8 g R i N:=by
 grind [N8,aV,N7,P8,cU]
theorem xn{g ew : Gh}(h:ew.Α=g.Α)(R:List Int)(G:Int)(W:iK):PN ew R G W=PN g R G W:=by
 grind [PN,MO]
def vk{g:Gh}{R:List Int}{G:Int}{W:iK}{i:Int}{r:L8}{cN:List eU}{Μ u w:Nat}(U:(W.E7.length:Int)=G)(hi:0<=i/\i<G)(hw:wS cN+w=wS W.Q)(h:wS r.1+N8 g R i r.2.1+Μ<=w+u+N8 g R i (W.nf i)):PN g R G (W.put i r cN)+Μ<=PN g R G W+u:=by
 have e:=jO (W:=W) (r:=r) (cN:=cN) (i:=i) D
 have q:=qf (n:=G.toNat) (k:=i.toNat) (f:=λj:Nat=>N8 g R (j:Int) (W.nf j)) (f':=λj:Nat=>N8 g R (j:Int) ((W.put i r cN).nf j)) D λj hj=>by
  rw[e,fE _ D]
 rw[show((i.toNat:Nat):Int)=i by omega] at q;have e2:(W.put i r cN).nf i=r.2.1:=by rw[e,ez]
 rw[e2] at q;have e3:wS (W.put i r cN).Q=wS cN+wS r.1:=tS _ _;unfold PN;omega
theorem IA{g:Gh}{R:List Int}{G:Int}{W W' : iK}(h:W'.E7=W.E7)(hm:W'.Q.Perm W.Q):PN g R G W' = PN g R G W:=by
 grind [iK.nf,iK.nd,PN,va]
structure O0 (G:Int) (b:Nat) (b0:Int->Int->Int->Int) (g:Gh) (R:List Int) (W:iK):Prop where
 Nw:1<=G/\G<=3
 len:(W.E7.length:Int)=G
 E:0<=W.E/\W.E<=1099511627776
 hb:b<=1900
 cv:OU G b g R W
 gr:Qk G g
 ag:PY G g W.nf W.Q
 nd:∀i:Int,0<=i/\i<G->ZY (b0 i) g i W.E (W.nd i).1 (W.nd i).2
theorem O0.nf{G:Int}{b:Nat}{b0:Int->Int->Int->Int}{g:Gh}{R:List Int}{W:iK}(h:O0 G b b0 g R W){i:Int}(hi:0<=i/\i<G):W.nf i=(W.nd i).1:=EG (by have:=h.len;omega)
theorem O0.put{G:Int}{b:Nat}{b0:Int->Int->Int->Int}{g:Gh}{R:List Int}{W:iK}(h:O0 G b b0 g R W){i:Int}(hi:0<=i/\i<G){r:L8}{cN:List eU}(B:∀y∈cN,y∈W.Q)(a5:I5 g i r)(a2:M1 g R i (W.nd i).1 (W.nd i).2 r)(a4:NB G g W.nf i r.2.1 r.1)(hd:N0 i I6 W.E r.2.1 r.2.2)(a6:r.2.1.U<=dg r.2.2)(hT:Ss r.2.2)(M:Tc (b0 i) g i r.2.1 r.2.2):∃ew,ew.Α=g.Α/\O0 G b b0 ew R (W.put i r cN):=by
 have U:=h.len;have hc:OU G b g R { W with Q:=cN }:=⟨h.cv.cv.drop rfl B,h.cv.hR,h.cv.Rn,h.cv.pn⟩;obtain⟨ew,e,hC⟩:=hc.send U hi a5 a2;have a3:0<=i/\i<W.E7.length:=D;refine⟨ew,e,h.Nw,by rw[vh];exact U,h.E,h.hb,hC,λA ls q=>h.gr A ls aj,?_,λj hj=>?_⟩
 .rw[jO a3];exact h.ag.step a4 e B
 .rw[uj a3 D];by_cases q:j=i
  .rw[Χ q,q];exact⟨a2.np,hd,a6,hT,λa x ha=>by rw[zK e];exact M a x ha⟩
  .rw[Ν q];have k:=h.nd j hj;exact⟨k.np,k.hd,k.U,k.tt,λa x ha=>by rw[zK e];exact k.TE a x ha⟩
def O0.perm{G:Int}{b:Nat}{b0:Int->Int->Int->Int}{g:Gh}{R:List Int}{W W' : iK}(h:O0 G b b0 g R W)(hn:W'.E7=W.E7)(ht:W'.E=W.E)(hm:∀y∈W'.Q,y∈W.Q):O0 G b b0 g R W':=by
 have e:∀i,W'.nd i=W.nd i:=λi=>by unfold iK.nd;rw[hn]
 have e2:W'.nf=W.nf:=by unfold iK.nf iK.nd;rw[hn]
 exact⟨h.Nw,by rw[hn];exact h.len,by rw[ht];exact h.E,h.hb,h.cv.drop hn hm,h.gr,by rw[e2];exact h.ag.sub hm,λi hi=>by rw[e,ht];exact h.nd i hi⟩
theorem KE{g:Gh}{R:List Int}{i A:Int}{N:υ}{S:Ρ}{ls:List lu}(hG:g.Α A=some ls)(B:A∈R)(hp:ζ N.Β A=none):dg S+cl (B3 i 0 ls)<=pn g R i N S:=by
 have K:=oS i 0 ls;have T:=ro (f:=λA=>if(ζ N.Β A).isNone=true then 2*NN (cU g A) else 0) B;grind [cU,pn,nP]
def LU{g:Gh}{R:List Int}{i:Int}{k:Int×Int}{N:υ}{S:Ρ}{l:lu}(U:g.Υ k=some l)(M:l.ts=i)(B:k.1∈R)(hk:k∉N.sh):dg S+2*l.am.length<=pn g R i N S:=by
 have K:=Gt U M B hk;unfold pn;omega
section
variable {G:Int}{b:Nat}{b0:Int->Int->Int->Int}{g:Gh}{R:List Int}{W:iK}{m:eU}
theorem O0.room(h:O0 G b b0 g R W)(hm:m∈W.Q):(0<=m.to/\m.to<G)/\Ph G g W.nf m/\L5 g m/\(m.ct.Δ=1->ζ (W.nd m.to).1.Β m.ct.A=none->dg (W.nd m.to).2+cl (B3 m.to 0 m.ct.Z)<=1900)/\(m.ct.Δ=5->(m.ct.A,m.ct.ω)∉(W.nd m.to).1.sh->∀l∈m.ct.Z,dg (W.nd m.to).2+2*l.am.length<=1900)/\dg (W.nd m.to).2+F0 (W.nd m.to).1<=1900:=by
 have hT:=h.ag.Q m hm;have hJ:=h.cv.cv.Q m hm;have B:=hT.to;have M:=h.cv.pn m.to B;have hb:=h.hb;refine⟨B,hT,hJ,λk hp=>?_,λk hr l U=>?_,?_⟩
 .have hG:=hJ.pr k;have:=KE (i:=m.to) (S:=(W.nd m.to).2) hG (h.cv.hR _ _ hG) hp
  omega
 .obtain⟨l',q1,q2,q3,_⟩:=hJ.tr k;rw[q2] at U;obtain rfl:=F6 U;obtain⟨ls,r1,_⟩:=zm q1;have:=LU (S:=(W.nd m.to).2) q1 q3 (h.cv.hR _ _ r1) hr
  omega
 grind [uk]
theorem FF{i Λ E:Int}{m:G3}{N:υ}{S:Ρ}(h:m.Δ=5)(hr:(m.A,m.ω)∈N.sh):(be i Λ m E N S).2=(N,S):=by
 grind [be,dU]
theorem O0.hand(h:O0 G b b0 g R W){cN:List eU}(hp:W.Q.Perm (m::cN)):∃ew,ew.Α=g.Α/\O0 G b b0 ew R (W.put m.to (be m.to m.Λ m.ct W.E (W.nd m.to).1 (W.nd m.to).2) cN)/\PN ew R G (W.put m.to (be m.to m.Λ m.ct W.E (W.nd m.to).1 (W.nd m.to).2) cN)+(if m.to=m.Λ then 0 else 1)<=PN g R G W:=by
 have a7:m∈W.Q:=hp.mem_iff.2 aA;have M:∀y∈cN,y∈W.Q:=λy Y=>hp.mem_iff.2 (az _ Y);obtain⟨hi,hT,hJ,r1,r5,rk⟩:=h.room a7;have hK:=h.nd m.to hi;have hN:=h.cv.cv.nd m.to hi;have e:=h.nf hi;have hr:=h.Nw;have a9:=hK.hd.U;have hB:∀A x,ζ (W.nf m.to).Φ A=some x->g.Α A=some x.Z:=by rw[e];exact hN.bg
 have a2:=zD (i:=m.to) (Λ:=m.Λ) (m:=m.ct) (E:=W.E) (S:=(W.nd m.to).2) h.ag hB h.gr hi hT hJ;have a4:=Je (R:=R) (i:=m.to) (Λ:=m.Λ) (m:=m.ct) (E:=W.E) (S:=(W.nd m.to).2) h.cv.hR h.ag hT hi hJ;have a5:=Ld (i:=m.to) (Λ:=m.Λ) (m:=m.ct) (E:=W.E) (nd:=W.nf) hK.tt h.ag h.gr hi hJ;have a3:=Jf (i:=m.to) (Λ:=m.Λ) (m:=m.ct) (E:=W.E) (nd:=W.nf) (S:=(W.nd m.to).2) (by rw[e];exact hK.U);have B:=GX (c:=I6) (i:=m.to) (Λ:=m.Λ) (m:=m.ct) (E:=W.E) (nd:=W.nf) (S:=(W.nd m.to).2) (b0:=b0 m.to) (by rw[e];exact hK.TE) h.ag h.gr hi D (by rw[e];exact hK.np) (by rw[e];exact hK.hd) hT hJ (by rw[e];exact λk q=>by have:=r1 k q;omega) (by rw[e];exact λk q l U=>by have:=r5 k q l U;omega) (by rw[e];omega);rw[e] at a2 a4 a5 a3 B
 have a6:N0 m.to I6 W.E (be m.to m.Λ m.ct W.E (W.nd m.to).1 (W.nd m.to).2).2.1 (be m.to m.Λ m.ct W.E (W.nd m.to).1 (W.nd m.to).2).2.2:=by
  by_cases q:m.ct.Δ=5/\(m.ct.A,m.ct.ω)∈(W.nd m.to).1.sh
  .rw[FF q.1 q.2];exact hK.hd
  .refine Lb D h.E.2 hK.hd (λk=>hJ.ZW h.gr.lg k) (λk hp=>?_) (λk l U=>?_) D
   .have:=r1 k hp
    have hn:=hK.U;have:=uk g R m.to (W.nd m.to).1 (W.nd m.to).2
    omega
   .have:=r5 k (λz=>q ⟨k,z⟩) l U
    omega
 obtain⟨ew,eg,hP⟩:=h.put hi M (oT (Λ:=m.Λ) (E:=W.E) h.cv.cv.gh hN (f2:=m.Λ) hJ) (tg h.cv.hR hK.np (f2:=m.Λ) hJ) a2 a6 a3 a5 B;refine⟨ew,eg,hP,?_⟩;rw[xn eg];refine aO (vk (u:=0) (w:=wt m) h.len hi ?_ ?_) (Nat.le_of_eq (dx _))
 .rw[va hp,mT,Nat.add_comm]
 .rw[e,dx];exact a4
end
end
section
open Go.V
theorem nZ{i Λ E:Int}{m:G3}{N:υ}{S:Ρ}:∀y∈(be i Λ m E N S).1,y.Λ=i/\m.Δ<y.ct.Δ/\y.ct.Δ<=6:=by
 have nil:∀y∈([]:List eU),y.Λ=i/\m.Δ<y.ct.Δ/\y.ct.Δ<=6:=jz;unfold be;by_cases k1:m.Δ=1
 .grind [C9,eN]
 rw[Ν k1];by_cases k2:m.Δ=2
 .grind [C9,ir,em]
 rw[Ν k2];by_cases k3:m.Δ=3
 .rw[Χ k3];have hv:∀to A,(⟨i,to,C9 4 A 0 false⟩:eU).Λ=i/\m.Δ<(⟨i,to,C9 4 A 0 false⟩:eU).ct.Δ/\(⟨i,to,C9 4 A 0 false⟩:eU).ct.Δ<=6:=λto A=>⟨rfl,by show m.Δ<4;omega,by show(4:Int)<=6;decide⟩;unfold dt;cases hp:ζ N.Β m.A with
  | none=>exact λy Y=>by rw[F6 Y];exact hv _ _
  | some p =>
   dsimp only;split
   .rw[iB];intro y Y;rcases J8 Y with Y|Y
    .obtain⟨o,_,rfl,_⟩:=(oK (f:=bV i m.A (if m.yes=true then 1 else 2) p.Ι E) (λo S=>oG o S) p.Z S).Q y Y;exact⟨rfl,by show m.Δ<5;omega,by show(5:Int)<=6;decide⟩
    .rw[F6 Y];exact hv _ _
   .exact λy Y=>by rw[F6 Y];exact hv _ _
 rw[Ν k3];by_cases k4:m.Δ=4
 .rw[Χ k4];exact nil
 rw[Ν k4];by_cases k5:m.Δ=5
 .grind [C9,dU]
 rw[Ν k5];by_cases k6:m.Δ=6
 .rw[Χ k6];exact nil
 grind
theorem ob{α:Type}{P:eU->Prop}{f:α->υ->Ρ->L8}:∀(l:List α) (N:υ) (S:Ρ),(∀a∈l,∀N S,∀y∈(f a N S).1,P y)->∀y∈(bS f l N S).1,P y
 | [],_,_,_,y,Y=>hD Y aG
 | a::l,N,S,h,y,Y=>by
  rcases J8 Y with Y|Y
  .grind
  .exact ob l _ _ aj y Y
theorem yK{i E:Int}:∀(Μ:Nat) (m:eU) (N:υ) (S:Ρ),m.Λ=i->∀y∈(bJ i E Μ m N S).1,y.Λ=i/\y.to≠i
 | 0,_,_,_,_,y,Y=>hD (show y∈[] from Y) aj
 | Μ+1,m,N,S,hf,y,Y=>by
  have e:bJ i E (Μ+1) m N S=if m.to≠i then([m],N,S) else bS (bJ i E Μ) (be i m.Λ m.ct E N S).1 (be i m.Λ m.ct E N S).2.1 (be i m.Λ m.ct E N S).2.2:=rfl;rw[e] at Y;by_cases ht:m.to≠i
  .rw[Χ ht] at Y;rw[F6 Y];exact⟨hf,ht⟩
  .rw[Ν ht] at Y;exact ob _ _ _ (λz hz N S=>yK Μ z N S (nZ z hz).1) y Y
theorem vH{i E:Int}{l:List eU}{N:υ}{S:Ρ}(h:∀m∈l,m.Λ=i):∀y∈(L9 i E l N S).1,y.Λ=i/\y.to≠i :=
 ob l N S λm hm N S=>yK 7 m N S (h m hm)
section
variable {J7:iK->Prop}{i:Int}
structure Td (J7:iK->Prop) (i:Int):Prop where
 len:∀W,J7 W->0<=i/\i<W.E7.length
 perm:∀W W' : iK,J7 W->W'.E7=W.E7->W'.E=W.E->W'.gR=W.gR->W'.Q.Perm W.Q->J7 W'
 hand:∀(W:iK) (m:eU) (cN:List eU),J7 W->W.Q.Perm (m::cN)->m.to=i->m.Λ=i->J7 (W.put i (be i m.Λ m.ct W.E (W.nd i).1 (W.nd i).2) cN)
theorem Td.same(h:Td J7 i){W:iK}{l cN:List eU}(hJ:J7 W)(hp:W.Q.Perm (l++cN)):J7 (W.put i (l,(W.nd i).1,(W.nd i).2) cN):=by
 have U:=h.len W hJ;refine h.perm W _ hJ ?_ rfl rfl ?_
 .show W.E7.set i.toNat (W.nd i)=W.E7;grind [iK.nd,eC]
 .exact List.perm_append_comm.trans hp.symm
theorem jN{W:iK}{r:L8}{cN:List eU}(hi:0<=i/\i<W.E7.length):(W.put i r cN).nd i=(r.2.1,r.2.2):=by rw[uj hi hi,Χ rfl]
def Xd(i:Int)(Μ:Nat)(m:eU):Prop:=m.Λ=i/\1<=Μ/\(m.to=i->7<=m.ct.Δ+Μ)
theorem qI(h:Td J7 i){Μ:Nat}(hp:∀(m:eU) (cN:List eU) (W:iK),J7 W->W.Q.Perm (m::cN)->Xd i Μ m->J7 (W.put i (bJ i W.E Μ m (W.nd i).1 (W.nd i).2) cN)):∀(l cN:List eU) (W:iK),J7 W->W.Q.Perm (l++cN)->(∀y∈l,Xd i Μ y)->J7 (W.put i (bS (bJ i W.E Μ) l (W.nd i).1 (W.nd i).2) cN)
 | [],cN,W,hJ,hm,_=>h.same hJ hm
 | a::l,cN,W,hJ,hm,hk=>by
  have K:=hp a (l++cN) W hJ hm aj;have U:=h.len W hJ;obtain⟨r,er⟩:∃r,bJ i W.E Μ a (W.nd i).1 (W.nd i).2=r:=⟨_,rfl⟩;rw[er] at K
  have T:=qI h hp l (cN++r.1) (W.put i r (l++cN)) K (by
   show((l++cN)++r.1).Perm _;grind) aj
  grind [jN,oP,bS,iK.put]
def wr(h:Td J7 i):∀(Μ:Nat) (m:eU) (cN:List eU) (W:iK),J7 W->W.Q.Perm (m::cN)->Xd i Μ m->J7 (W.put i (bJ i W.E Μ m (W.nd i).1 (W.nd i).2) cN)
 | 0,_,_,_,_,_,hk=>hD hk.2.1 ae
 | Μ+1,m,cN,W,hJ,hm,hk=>by
  have U:=h.len W hJ;have e:bJ i W.E (Μ+1) m (W.nd i).1 (W.nd i).2=if m.to≠i then([m],(W.nd i).1,(W.nd i).2) else bS (bJ i W.E Μ) (be i m.Λ m.ct W.E (W.nd i).1 (W.nd i).2).1 (be i m.Λ m.ct W.E (W.nd i).1 (W.nd i).2).2.1 (be i m.Λ m.ct W.E (W.nd i).1 (W.nd i).2).2.2:=rfl;rw[e];by_cases ht:m.to≠i
  .rw[Χ ht];exact h.same hJ hm
  rw[Ν ht];have ht:m.to=i:=Classical.byContradiction ht;have K:=h.hand W m cN hJ hm ht hk.1;have ho:=nZ (i:=i) (Λ:=m.Λ) (m:=m.ct) (E:=W.E) (N:=(W.nd i).1) (S:=(W.nd i).2);generalize be i m.Λ m.ct W.E (W.nd i).1 (W.nd i).2=r at K ho ⊢
  have T:=qI h (wr h Μ) r.1 cN (W.put i r cN) K List.perm_append_comm λy Y=>by
   obtain⟨q1,q2,q3⟩:=ho y Y;have:=hk.2.2 ht
   exact⟨q1,D,λ_=>D⟩
  rw[jN U,oP] at T;exact T
def sW(h:Td J7 i){l cN:List eU}{W:iK}(hJ:J7 W)(hm:W.Q.Perm (l++cN))(hk:∀y∈l,y.Λ=i/\0<=y.ct.Δ):J7 (W.put i (L9 i W.E l (W.nd i).1 (W.nd i).2) cN) :=
 qI h (wr h 7) l cN W hJ hm λy Y=>⟨(hk y Y).1,by decide,λ_=>by have:=(hk y Y).2;omega⟩
end
end
section
open Go.V
def U7(Q:List eU)(A k:Int):Prop:=∃y∈Q,y.ct.A=A/\(y.ct.Δ=3/\y.to=k\/y.ct.Δ=4/\y.Λ=k)
def U8(Q:List eU)(A ix:Int):Prop:=∃y∈Q,y.ct.A=A/\y.ct.ω=ix/\(y.ct.Δ=5\/y.ct.Δ=6)
def TF(N:υ)(Q:List eU)(A:Int):Prop:=∀x,ζ N.Φ A=some x->x.dec=true/\∀k∈x.iM,k∈x.told\/U7 Q A k
def Wd(N:υ)(Q:List eU)(A:Int):Prop:=∀p,ζ N.Β A=some p->∀o∈p.Z,o.state=1->U8 Q A o.ω
def U7.mono{Q B : List eU}{A k:Int}(h:U7 Q A k)(hm:∀y∈Q,y∈B):U7 B A k:=by
 obtain⟨y,K,T⟩:=h;exact⟨y,hm y K,T⟩
def U8.mono{Q B : List eU}{A k:Int}(h:U8 Q A k)(hm:∀y∈Q,y∈B):U8 B A k:=by
 obtain⟨y,K,T⟩:=h;exact⟨y,hm y K,T⟩
section
variable {i Λ E:Int}{m:G3}{N:υ}{S:Ρ}
def EW(hk:m.Δ=3):∃y∈(be i Λ m E N S).1,y.ct.A=m.A/\y.ct.Δ=4/\y.Λ=i:=by
 unfold be;rw[Ν D,Ν D,Χ hk];unfold dt;cases hp:ζ N.Β m.A with
 | none=>exact⟨_,List.mem_singleton.2 rfl,rfl,rfl,rfl⟩
 | some p =>
  dsimp only;split
  .exact⟨_,cw _ (List.mem_singleton.2 rfl),rfl,rfl,rfl⟩
  .exact⟨_,List.mem_singleton.2 rfl,rfl,rfl,rfl⟩
def GY(hk:m.Δ=5)(h:(m.A,m.ω)∉N.sh->(m.Z.length=1/\m.Κ.length=m.Z[0]!.am.length)/\E6 S 5 E (G7 m.Z[0]!.to m.Z[0]!.am m.Κ)=true):∃y∈(be i Λ m E N S).1,y.ct.A=m.A/\y.ct.ω=m.ω/\y.ct.Δ=6:=by
 unfold be;rw[Ν D,Ν D,Ν D,Ν D,Χ hk];unfold dU;by_cases hr:(m.A,m.ω)∈N.sh
 .rw[Χ hr];exact⟨_,List.mem_singleton.2 rfl,rfl,rfl,rfl⟩
 .obtain⟨K,T⟩:=h hr;rw[Ν hr,Χ K,Χ T];exact⟨_,List.mem_singleton.2 rfl,rfl,rfl,rfl⟩
theorem Jg{x:K6}(hk:m.Δ=4)(O:ζ N.Φ m.A=some x):ζ (be i Λ m E N S).2.1.Φ m.A=some { x with told:=NX x.told Λ }:=by
 grind [be,gc,υ.J1,cF]
theorem vx:∀A x',ζ (be i Λ m E N S).2.1.Φ A=some x'->∃x,ζ N.Φ A=some x/\x'.C6=x.C6/\(x.C6<E->x.F7=false->x'.F7=false):=by
 have same:∀{b:List (Int×K6)},b=N.Φ->∀A x',ζ b A=some x'->∃x,ζ N.Φ A=some x/\x'.C6=x.C6/\(x.C6<E->x.F7=false->x'.F7=false):=aj;have set:∀{x y:K6},ζ N.Φ m.A=some x->y.C6=x.C6->(x.C6<E->x.F7=false->y.F7=false)->∀A x',ζ (cZ N.Φ m.A y) A=some x'->∃x,ζ N.Φ A=some x/\x'.C6=x.C6/\(x.C6<E->x.F7=false->x'.F7=false):=by grind [cF]
 unfold be;by_cases k1:m.Δ=1
 .grind [eN]
 rw[Ν k1];by_cases k2:m.Δ=2
 .rw[Χ k2];unfold em;cases O:ζ N.Φ m.A with
  | none=>exact same rfl
  | some x =>
   dsimp only;split
   .exact same rfl
   split
   .exact set O rfl λ_ _=>rfl
   split
   .grind
   .exact set O rfl λU _=>bB D
 rw[Ν k2];by_cases k3:m.Δ=3
 .grind [dt]
 grind [gc,υ.J1,dU,O4,υ.K7]
theorem Jd{nd:Nk}{G:Int}{g:Gh}(hT:∀A p,ζ N.Β A=some p->Sa G g nd i A p):∀A p',ζ (be i Λ m E N S).2.1.Β A=some p'->∀o'∈p'.Z,o'.state=1->(∃y∈(be i Λ m E N S).1,y.ct.A=A/\y.ct.ω=o'.ω/\y.ct.Δ=5)\/∃p,ζ N.Β A=some p/\∃o∈p.Z,o.state=1/\o.ω=o'.ω/\¬(m.Δ=6/\m.A=A/\m.ω=o'.ω):=by
 have same:∀{Q:List eU} {b:List (Int×NF)},b=N.Β->¬m.Δ=6->∀A p',ζ b A=some p'->∀o'∈p'.Z,o'.state=1->(∃y∈Q,y.ct.A=A/\y.ct.ω=o'.ω/\y.ct.Δ=5)\/∃p,ζ N.Β A=some p/\∃o∈p.Z,o.state=1/\o.ω=o'.ω/\¬(m.Δ=6/\m.A=A/\m.ω=o'.ω):=aj;have set:∀{Q:List eU} {y:NF},¬m.Δ=6->(∀o'∈y.Z,o'.state=1->∃z∈Q,z.ct.A=m.A/\z.ct.ω=o'.ω/\z.ct.Δ=5)->∀A p',ζ (cZ N.Β m.A y) A=some p'->∀o'∈p'.Z,o'.state=1->(∃y∈Q,y.ct.A=A/\y.ct.ω=o'.ω/\y.ct.Δ=5)\/∃p,ζ N.Β A=some p/\∃o∈p.Z,o.state=1/\o.ω=o'.ω/\¬(m.Δ=6/\m.A=A/\m.ω=o'.ω):=by grind [cF]
 unfold be;by_cases k1:m.Δ=1
 .rw[Χ k1];unfold eN;cases hp:ζ N.Β m.A with
  | some p=>grind
  | none =>
   dsimp only;split
   .refine set D λo ho hs=>?_;have:=(iX ho).2.2
    omega
   .exact set D aj
 rw[Ν k1];by_cases k2:m.Δ=2
 .grind [em]
 rw[Ν k2];by_cases k3:m.Δ=3
 .rw[Χ k3];unfold dt;cases hp:ζ N.Β m.A with
  | none=>exact set D aj
  | some p =>
   dsimp only;split
   .rename_i h0;rw[iB];refine set D λo ho hs=>?_;rcases (oK (f:=bV i m.A (if m.yes=true then 1 else 2) p.Ι E) (λo S=>oG o S) p.Z S).SO o ho hs with q|q
    .have:=((hT _ _ hp).ow o q).s0 h0
     omega
    .exact⟨_,cI _ q,rfl,rfl,rfl⟩
   grind
 rw[Ν k3];by_cases k4:m.Δ=4
 .grind [gc,υ.J1]
 rw[Ν k4];by_cases k5:m.Δ=5
 .grind [dU]
 rw[Ν k5];by_cases k6:m.Δ=6
 .rw[Χ k6];unfold O4 υ.K7;cases hp:ζ N.Β m.A with
  | none =>
   grind
  | some p =>
   grind [eY,cF]
 grind
end
section
variable {G:Int}{g:Gh}{R:List Int}{W:iK}{m:eU}{b:Nat}{b0:Int->Int->Int->Int}{cN:List eU}
theorem Js(h:O0 G b b0 g R W)(hp:W.Q.Perm (m::cN)){j A:Int}(hj:0<=j/\j<G)(hC:TF (W.nf j) W.Q A):TF ((W.put m.to (be m.to m.Λ m.ct W.E (W.nd m.to).1 (W.nd m.to).2) cN).nf j) (W.put m.to (be m.to m.Λ m.ct W.E (W.nd m.to).1 (W.nd m.to).2) cN).Q A:=λx' B=>by
 have a2:m∈W.Q:=aj;obtain⟨hi,hT,hJ,_⟩:=h.room a2;have M:=h.len;have e:=h.nf hi;rw[jO D] at B
 have a4:∃x,ζ (W.nf j).Φ A=some x/\x'.iM=x.iM/\(x.dec=true->x'.dec=true)/\(∀k∈x.told,k∈x'.told)/\(m.ct.Δ=4->m.ct.A=A->m.Λ∈x'.told):=by
  have hB:∀A x,ζ (W.nf m.to).Φ A=some x->g.Α A=some x.Z:=by rw[e];exact(h.cv.cv.nd m.to hi).bg
  have hA:=zD (i:=m.to) (Λ:=m.Λ) (m:=m.ct) (E:=W.E) (S:=(W.nd m.to).2) h.ag hB h.gr hi hT hJ;by_cases q:j=m.to
  .rw[q,ez] at B;obtain⟨x,O,_⟩:=vx _ _ B;rw[<-e] at O;obtain⟨x2,r1,_,r3,r4,r5⟩:=hA.le.bg _ _ O;rw[e,B] at r1;obtain rfl:=Pr r1;refine⟨x,aj,r3,λz=>(r4 z).1,r5,λk4 a3=>?_⟩;grind [Jg,Wc]
  .rw[fE _ q] at B;refine⟨x',B,rfl,λz=>z,λ_ z=>z,λk4 a3=>?_⟩;have a5:=(h.ag.bg j hj A x' B).1;obtain⟨ls,_,_,r3⟩:=hT.G5;grind
 obtain⟨x,O,hg,hd,ht,h4⟩:=a4;obtain⟨q1,q2⟩:=hC x O;refine⟨hd q1,λk hk=>?_⟩;rw[hg] at hk;rcases q2 k hk with q|⟨y,y1,y2,y3⟩
 .grind
 rcases Nj (hp.mem_iff.1 y1) with rfl|y1
 .rcases y3 with⟨z1,z2⟩|⟨z1,z2⟩
  .obtain⟨w,w1,w2,w3,w4⟩:=EW (i:=y.to) (Λ:=y.Λ) (E:=W.E) (N:=(W.nd y.to).1) (S:=(W.nd y.to).2) z1;exact .inr ⟨w,cw _ w1,w2.trans y2,.inr ⟨w3,w4.trans z2⟩⟩
  grind
 .exact .inr ⟨y,cI _ y1,y2,y3⟩
theorem O0.imp(h:O0 G b b0 g R W)(hm:m∈W.Q)(hk:m.ct.Δ=5):(m.ct.A,m.ct.ω)∉(W.nd m.to).1.sh->(m.ct.Z.length=1/\m.ct.Κ.length=m.ct.Z[0]!.am.length)/\E6 (W.nd m.to).2 5 W.E (G7 m.ct.Z[0]!.to m.ct.Z[0]!.am m.ct.Κ)=true:=λhr=>by
 obtain⟨hi,hT,hJ,_,r5,_⟩:=h.room hm;have hK:=h.nd m.to hi;have B:=h.Nw;exact Ml (Λ:=m.Λ) (m:=m.ct) h.cv.cv.gh (h.cv.cv.nd m.to hi) hK.hd hK.tt h.gr hi D hT hJ hk hr aj h.E.2
theorem Jr(h:O0 G b b0 g R W)(hp:W.Q.Perm (m::cN)){j A:Int}(hj:0<=j/\j<G)(hC:Wd (W.nf j) W.Q A):Wd ((W.put m.to (be m.to m.Λ m.ct W.E (W.nd m.to).1 (W.nd m.to).2) cN).nf j) (W.put m.to (be m.to m.Λ m.ct W.E (W.nd m.to).1 (W.nd m.to).2) cN).Q A:=λp' B o' M a3=>by
 have a2:m∈W.Q:=aj;obtain⟨hi,hT,hJ,_⟩:=h.room a2;have a5:=h.len;have e:=h.nf hi;rw[jO D] at B
 have a7:(∃y∈(be m.to m.Λ m.ct W.E (W.nd m.to).1 (W.nd m.to).2).1,y.ct.A=A/\y.ct.ω=o'.ω/\y.ct.Δ=5)\/∃p,ζ (W.nf j).Β A=some p/\∃o∈p.Z,o.state=1/\o.ω=o'.ω/\¬(m.ct.Δ=6/\m.ct.A=A/\m.ct.ω=o'.ω):=by
  by_cases q:j=m.to
  .rw[q,ez] at B;rw[q,e];exact Jd (nd:=W.nf) (G:=G) (g:=g) (by rw[<-e];exact h.ag.pt m.to hi) A p' B o' M a3
  .rw[fE _ q] at B;refine .inr ⟨p',B,o',M,a3,rfl,λz=>?_⟩;obtain⟨⟨l,l1,l2,_⟩,_⟩:=hT.go z.1;have l1:g.Υ (m.ct.A,m.ct.ω)=some l:=l1;obtain⟨r1,r2⟩:=(h.ag.pt j hj A p' B).Υ M;grind
 rcases a7 with⟨y,y1,y2,y3,y4⟩|⟨p,a6,o,ho,hs,a4,a9⟩
 .exact⟨y,cw _ y1,y2,y3,.inl y4⟩
 obtain⟨y,y1,y2,y3,y4⟩:=hC p a6 o ho hs;rcases Nj (hp.mem_iff.1 y1) with rfl|y1
 .rcases y4 with y4|y4
  .obtain⟨w,w1,w2,w3,w4⟩:=GY (i:=y.to) (Λ:=y.Λ) (E:=W.E) (N:=(W.nd y.to).1) (S:=(W.nd y.to).2) y4 (h.imp a2 y4);exact⟨w,cw _ w1,w2.trans y2,w3.trans D,.inr w4⟩
  omega
 .exact⟨y,cI _ y1,y2,y3.trans a4,y4⟩
