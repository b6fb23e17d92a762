/- Lemmas. -/
import Derived.Test.YtlgpgjdggilkgaaGreatDoorEtbl
set_option linter.all false
namespace Go.Proofs.YtlgpgjdggilkgaaGreatDoor
section
open Go.V
theorem LZ(ls:List lu)(i A:Int)(rv:List (Int×Int)):W8 ls i A rv<=2*NN ls:=by
 have h:∀n:Nat,n<=ls.length->((List.range n).map (Ux ls i A rv)).sum<=2*NN (ls.take n):=λn=>by
  induction n with
  | zero=>grind
  | succ n ih =>
   grind [dc,aB,NN,Ux]
 have q:=h ls.length D;rw[cz] at q;exact q
def LT{g:Gh}{R:List Int}{A:Int}{ls:List lu}(Rn:∀x∈R,∃l,g.Α x=some l)(B:g.Α A=none)(i:Int)(N:υ)(S:Ρ):pn (g.G5 A ls) (A::R) i N S<=pn g R i N S+4*NN ls:=by
 have e0:cU (g.G5 A ls) A=ls:=by
  unfold cU;rw[show(g.G5 A ls).Α A=some ls from Χ rfl];rfl
 have e1:∀x∈R,cU (g.G5 A ls) x=cU g x:=λx O=>by
  obtain⟨l,U⟩:=Rn x O;unfold cU;rw[rx B U,U]
 have p1:nP (g.G5 A ls) (A::R) N<=2*NN ls+nP g R N:=by
  unfold nP;rw[aq,aS,e0];refine cH ?_ (Nat.le_of_eq (congrArg List.sum (aV λx O=>by rw[e1 x O])));split
  .exact an _
  .exact aC _
 have p2:nR (g.G5 A ls) (A::R) i N.sh<=2*NN ls+nR g R i N.sh:=by
  unfold nR;rw[aq,aS,e0];exact cH (LZ _ _ _ _) (Nat.le_of_eq (congrArg List.sum (aV λx O=>by rw[e1 x O])))
 unfold pn;omega
def OU.mono{G:Int}{b b' : Nat}{g:Gh}{R:List Int}{W:iK}(h:OU G b g R W)(hb:b<=b'):OU G b' g R W:=⟨h.cv,h.hR,h.Rn,λi hi=>aO (h.pn i hi) hb⟩
def OU.drop{G:Int}{b:Nat}{g:Gh}{R:List Int}{W W' : iK}(h:OU G b g R W)(hn:W'.E7=W.E7)(hm:∀y∈W'.Q,y∈W.Q):OU G b g R W' :=
 ⟨h.cv.drop hn hm,h.hR,h.Rn,λi hi=>by
  have e:W'.nd i=W.nd i:=by unfold iK.nd;rw[hn]
  rw[e];exact h.pn i hi⟩
def W9(G:Int)(b:Nat)(W:iK):Prop:=∃g R,OU G b g R W/\Sr G g.Α W
def W9.i{G:Int}{b:Nat}{W:iK}(h:W9 G b W):X1 G W:=by
 obtain⟨g,R,K,T⟩:=h;exact⟨g,K.cv,T⟩
theorem TA.q{n:Int}{l:List Int}{W:G1}(h:TA n l W):W9 n 8 W.m:=by
 have U:=h.len;refine⟨⟨λ_=>none,λ_=>none⟩,[],⟨⟨⟨aj,aj⟩,λi hi=>?_,λy Y=>?_,aj⟩,aj,aj,λi hi=>?_⟩,λA ls q=>aj⟩
 .have B:i.toNat<W.aa.length:=D;have e:W.m.nd i=W.aa[i.toNat]!.m:=eJ (f:=K2.m) B;have q:=(h.sd i.toNat B).W7;rw[show((i.toNat:Nat):Int)=i by omega] at q;rw[e];exact q
 .have Y:y∈W.B4.map (·.m):=Y;rw[h.Q] at Y;cases Y
 .have B:i.toNat<W.aa.length:=D;have e:W.m.nd i=W.aa[i.toNat]!.m:=eJ (f:=K2.m) B;have hs:=h.sd i.toNat B;have hk:=hs.sp.k;rw[e];show dg W.aa[i.toNat]!.S+F0 W.aa[i.toNat]!.n.m+0+0<=8;rw[hs.n];show dg W.aa[i.toNat]!.S+0+0+0<=8;omega
def SM(a x:Int)(m:A8):Int:=if a=m.Λ then(if x=m.a1 then m.n else 0) else 0
def pO(a x:Int)(m:A8):Int:=if a=m.to then(if x=m.a1 then m.n else 0) else 0
def Og(a x:Int)(Q:List A8):Int:=(Q.map (SM a x)).sum
def gD(a x:Int)(Q:List A8):Int:=(Q.map (pO a x)).sum
theorem EY{d:Int}{fl:List E3}{hl:Int->Bool}{s:D6}{W:Wk}{k:Nat}{m:A8}(h:Ry d fl k W)(hm:Qt m)(hp:m.Β=[])(hf:m.Λ≠0)(hk:k<=2000)(hB:Rj W.ν W.id (fl++W.Κ))(hb:m.n<=aY (W.ν m.Λ m.a1)):(cg d fl hl s W m).1=0:=by
 have he:N4 d (fl++W.Κ) s W m=0:=by
  unfold N4;rw[Ν hf,Χ hp,Ν D]
 have ht:¬du W m>1099511627776:=by
  have:=hB.top m.a1
  have:=hm.n
  unfold du;rw[Ν hf];split<;>omega
 unfold cg;rw[Ν D,Ν ht];split
 .rfl
 .have q:=(uD (hl:=hl) h hm hk he m.to m.a1).len;grind
theorem pT{d:Int}{fl:List E3}{hl:Int->Bool}{s:D6}(M:0<=d):∀(Q:List A8) (W:Wk) (k:Nat),Ry d fl k W->(∀m∈Q,Qt m)->k+C5 Q<=2000->Rj W.ν W.id (fl++W.Κ)->(cR d fl hl s W Q).1=0->(∀a x,a≠0->aY ((cR d fl hl s W Q).2.ν a x)=aY (W.ν a x) - Og a x Q+gD a x Q)/\Rj (cR d fl hl s W Q).2.ν (cR d fl hl s W Q).2.id (fl++(cR d fl hl s W Q).2.Κ)
 | [],W,k,_,_,_,hB,_=>⟨λa x _=>by show aY (W.ν a x)=aY (W.ν a x) - 0+0;omega,hB⟩
 | m::Q,W,k,h,hm,hk,hB,he=>by
  have e:cR d fl hl s W (m::Q)=if(cg d fl hl s W m).1=0 then cR d fl hl s (cg d fl hl s W m).2 Q else((cg d fl hl s W m).1,W):=rfl;have ek:C5 (m::Q)=(m.Β.length+1)+C5 Q:=rfl;rw[e] at he ⊢;by_cases h0:(cg d fl hl s W m).1=0
  case neg =>
   grind
  rw[Χ h0] at he ⊢;have B:=hm m aA;obtain⟨g1,g2⟩:=nx M h B D h0;obtain⟨_,b2,_,b4⟩:=wG h B D hB h0;obtain⟨c1,c2⟩:=pT M Q _ _ g1 (λy Y=>hm y (az _ Y)) D b4 he;refine⟨λa x ha=>?_,c2⟩;rw[c1 a x ha,b2 a x ha];have e1:Og a x (m::Q)=SM a x m+Og a x Q:=by unfold Og;rw[aq,aS]
  have e2:gD a x (m::Q)=pO a x m+gD a x Q:=by unfold gD;rw[aq,aS]
  rw[e1,e2];unfold SM pO;split<;>split<;>(try split)<;>omega
theorem KK{a x:Int}{m:A8}(h:Qt m):0<=SM a x m:=by
 have:=h.n
 grind [SM]
theorem IX{a x:Int}{m:A8}(h:Qt m):0<=pO a x m:=by
 have:=h.n
 grind [pO]
def Cz{a x:Int}:∀{Q:List A8},(∀m∈Q,Qt m)->0<=Og a x Q
 | [],_=>bE _
 | m::Q,h=>by
  have K:=KK (a:=a) (x:=x) (h m aA);have T:=Cz (a:=a) (x:=x) λy Y=>h y (az _ Y);have e1:Og a x (m::Q)=SM a x m+Og a x Q:=by unfold Og;rw[aq,aS]
  omega
def sw{d:Int}{fl:List E3}{hl:Int->Bool}{s:D6}(M:0<=d):∀(Q:List A8) (W:Wk) (k:Nat),Ry d fl k W->(∀m∈Q,Qt m/\m.Β=[]/\m.Λ≠0)->k+C5 Q<=2000->Rj W.ν W.id (fl++W.Κ)->(∀a x,a≠0->Og a x Q<=aY (W.ν a x))->(cR d fl hl s W Q).1=0
 | [],W,k,_,_,_,_,_=>rfl
 | m::Q,W,k,h,hm,hk,hB,hb=>by
  have e:cR d fl hl s W (m::Q)=if(cg d fl hl s W m).1=0 then cR d fl hl s (cg d fl hl s W m).2 Q else((cg d fl hl s W m).1,W):=rfl;have ek:C5 (m::Q)=(m.Β.length+1)+C5 Q:=rfl;obtain⟨B,hp,hf⟩:=hm m aA;have a2:=λy Y=>(hm y (az _ Y)).1;have e1:∀a x,Og a x (m::Q)=SM a x m+Og a x Q:=λa x=>by unfold Og;rw[aq,aS]
  have h0:(cg d fl hl s W m).1=0:=by
   refine EY h B hp hf D hB ?_;have q:=hb m.Λ m.a1 hf;rw[e1] at q;have:=Cz (a:=m.Λ) (x:=m.a1) a2
   have e2:SM m.Λ m.a1 m=m.n:=by unfold SM;rw[Χ rfl,Χ rfl]
   omega
  rw[e,Χ h0];obtain⟨g1,g2⟩:=nx M h B D h0;obtain⟨_,b2,_,b4⟩:=wG h B D hB h0;refine sw M Q _ _ g1 (λy Y=>hm y (az _ Y)) D b4 λa x ha=>?_;have q:=hb a x ha;rw[e1] at q;have q2:=IX (a:=a) (x:=x) B;rw[b2 a x ha];unfold SM at q;unfold pO at q2;split<;>split<;>simp_all<;>(try split)<;>(try split at q)<;>(try split at q2)<;>omega
theorem P5.all{d:Int}{c:B0}(B:0<=d/\d<12){S:Ρ}(h:P5 d c S):dg S<=2000->SZ (dg S) S/\Rj S.ν S.id S.Κ/\S.D9.length<=dg S:=by
 induction h with
 | zero=>exact λ_=>⟨GI B c,IQ d c,an _⟩
 | @post S s h K ih =>
  intro hk;have hp:=jg K;have ek:dg (bM S s)=dg S+C5 s.fe:=by rw[jq,Χ K]
  obtain⟨i1,i2,i3⟩:=ih D;have hA:=(CT (s:=s) i1 D).1;have hm:1<=C5 s.fe:=aO hp.2.2.2.1.1 (vr s.fe);have eq:=oV K;have T:=K;rw[eq] at T;obtain⟨b1,b2⟩:=pT (by have:=i1.g.D8;omega) s.fe (ND S) _ (tM i1.g) (pC hp) (by show dg S+0+C5 s.fe<=2000;omega) (by show Rj S.ν S.id (S.Κ++[]);grind) T;grind [bM,fC]
theorem lB{d:Int}{c:B0}(B:0<=d/\d<12){S:Ρ}(h:P5 d c S){s:D6}(hk:dg S+C5 s.fe<=2000)(K:(E2 S s).1=0):∀a x,a≠0->aY ((bM S s).ν a x)=aY (S.ν a x) - Og a x s.fe+gD a x s.fe:=by
 obtain⟨i1,i2,i3⟩:=h.all B D;have eq:=oV K;have T:=K;rw[eq] at T;obtain⟨b1,b2⟩:=pT (by have:=i1.g.D8;omega) s.fe (ND S) _ (tM i1.g) (pC (jg K)) (by show dg S+0+C5 s.fe<=2000;omega) (by show Rj S.ν S.id (S.Κ++[]);grind) T;intro a x ha;rw[show bM S s=fC S s from Χ K];show aY ((E2 S s).2.ν a x)=_;rw[eq];exact b1 a x ha
theorem FZ{d:Int}{c:B0}(B:0<=d/\d<12){S:Ρ}(h:P5 d c S){s:D6}(hk:dg S+C5 s.fe<=2000)(hp:gC S.π S.now s)(hm:∀m∈s.fe,m.Β=[]/\m.Λ≠0)(hb:∀a x,a≠0->Og a x s.fe<=aY (S.ν a x)):(E2 S s).1=0:=by
 obtain⟨i1,i2,i3⟩:=h.all B D;unfold E2;rw[Ν D,Ν aj];exact sw (by have:=i1.g.D8;omega) s.fe (ND S) _ (tM i1.g) (by grind [pC]) (by show dg S+0+C5 s.fe<=2000;omega) (by show Rj S.ν S.id (S.Κ++[]);grind) hb
def ma{a x f t:Int}:∀am:List (Int×Int),Og a x (B2 f t am)=if a=f then((am.map λp=>if x=p.1 then p.2 else 0).sum) else 0
 | []=>by show(0:Int)=_;split<;>rfl
 | p::am=>by
  have ih:=ma (a:=a) (x:=x) (f:=f) (t:=t) am
  have e:Og a x (B2 f t (p::am))=(if a=f then(if x=p.1 then p.2 else 0) else 0)+Og a x (B2 f t am):=by
   unfold Og B2;rw[aq,aq,aS];rfl
  rw[e,ih,aq,aS];split<;>omega
def mI{a x f t:Int}:∀am:List (Int×Int),gD a x (B2 f t am)=if a=t then((am.map λp=>if x=p.1 then p.2 else 0).sum) else 0
 | []=>by show(0:Int)=_;split<;>rfl
 | p::am=>by
  have ih:=mI (a:=a) (x:=x) (f:=f) (t:=t) am
  have e:gD a x (B2 f t (p::am))=(if a=t then(if x=p.1 then p.2 else 0) else 0)+gD a x (B2 f t am):=by
   unfold gD B2;rw[aq,aq,aS];rfl
  rw[e,ih,aq,aS];split<;>omega
theorem Jv{d:Int}{fl:List E3}(h:Ul fl){p:h2}(hp:a0 p)(B:¬(p.1 / 4294967296=d\/11<p.1 / 4294967296))(M:∀y∈dm fl,y.1≠p.1):Uj d fl [p]=0:=by
 have e:=tc (d:=d) h [p] [] (λq hq=>by rw[F6 hq];exact hp) (dD _ _) (λΜ hd=>hD hd aG);rw[<-e,aI,qP,Ν B,Ν (by grind [TU])];rfl
theorem IZ{d:Int}{fl:List E3}{hl:Int->Bool}{s:D6}{W:Wk}{k:Nat}{m:A8}(h:SY d fl k W)(hm:SI s.Δ m)(h5:s.Δ=5){A:Int}(hp:m.Β=[(A,0,m.n)])(h0:0<=A)(B:¬(A / 4294967296=d\/11<A / 4294967296))(M:∀y∈dm (fl++W.Κ),y.1≠A)(ht:W.id m.a1+m.n<=1099511627776)(hk:k<=2000):(cg d fl hl s W m).1=0:=by
 have hf:=hm.imp h5;have hn:=hm.g.n;have a4:=hm.g.ne;have a2:a0 (A,0,m.n):=⟨h0,bE _,by dsimp only;omega,hn.1,by dsimp only;omega⟩
 have he:N4 d (fl++W.Κ) s W m=0:=by
  unfold N4;rw[Χ hf,Χ h5,hp];exact Jv h.fa a2 B M
 have a3:¬du W m>1099511627776:=by
  unfold du;rw[Χ hf];split<;>omega
 unfold cg;rw[Ν D,Ν a3];split
 .rfl
 .have q:=(h.g.ν m.to m.a1).len;have e:NI hl W m m.to m.a1=W.ν m.to m.a1:=by unfold NI;rw[Χ hf]
  grind
def uG{d:Int}{fl:List E3}{hl:Int->Bool}{s:D6}(a2:0<=d)(h5:s.Δ=5){to:Int}:∀(am:List (Int×Int)) (gR:List Int) (W:Wk) (k:Nat),SY d fl k W->(∀m∈G7 to am gR,SI s.Δ m)->k+C5 (G7 to am gR)<=2000->gR.Nodup->(∀A∈gR,0<=A/\¬(A / 4294967296=d\/11<A / 4294967296)/\∀y∈dm (fl++W.Κ),y.1≠A)->(∀x,W.id x+(am.map (·.2)).sum<=1099511627776)->(∀p∈am,0<=p.2)->(cR d fl hl s W (G7 to am gR)).1=0
 | [],_,_,_,_,_,_,_,_,_,_=>rfl
 | _::_,[],_,_,_,_,_,_,_,_,_=>rfl
 | a::am,A::gR,W,k,h,hm,hk,hn,hi,ht,hp=>by
  have e:cR d fl hl s W (G7 to (a::am) (A::gR))=if(cg d fl hl s W (jI to (a,A))).1=0 then cR d fl hl s (cg d fl hl s W (jI to (a,A))).2 (G7 to am gR) else((cg d fl hl s W (jI to (a,A))).1,W):=rfl;have ek:C5 (G7 to (a::am) (A::gR))=(1+1)+C5 (G7 to am gR):=rfl;have B:=hm (jI to (a,A)) aA;obtain⟨i0,i1,i2⟩:=hi A aA
  have a6:0<=(am.map (·.2)).sum:=by
   have:∀l:List (Int×Int),(∀p∈l,0<=p.2)->0<=(l.map (·.2)).sum:=λl=>by
    induction l with
    | nil=>intro _;exact bE _
    | cons b l ih =>
     intro hb;have K:=hb b aA;have T:=ih λp hp=>hb p (az _ hp);rw[aq,aS];omega
   exact this am λp M=>hp p (az _ M)
  have a7:=ht a.1;rw[aq,aS] at a7;have h0:(cg d fl hl s W (jI to (a,A))).1=0:=IZ h B h5 (A:=A) rfl i0 i1 i2 (by show W.id a.1+a.2<=_;omega) D;rw[e,Χ h0];obtain⟨a4,a5⟩:=List.nodup_cons.1 hn;have hA:=vz a2 h B (by show k+1<=2000;omega) h0;obtain⟨f1,f2⟩:=uH h0;refine uG a2 h5 am gR _ _ hA (λm a3=>hm m (az _ a3)) (by show k+1+1+_<=2000;omega) a5 (λj hj=>?_) (λx=>?_) λp M=>hp p (az _ M)
  .obtain⟨j0,j1,j2⟩:=hi j (az _ hj);refine⟨j0,j1,λy Y=>?_⟩;rw[f1,<-aH,mJ] at Y;rcases J8 Y with Y|Y
   .exact j2 y Y
   .obtain⟨g,hg,_,Y⟩:=VX.1 Y;rw[F6 hg] at Y
    have ep:(gF d fl.length hl s W (jI to (a,A))).Β=[(A,0,a.2)]:=by
     show PU hl s W (jI to (a,A))=_;unfold PU;rw[Χ (B.imp h5),Χ (.inl h5)];rfl
    rw[ep] at Y;rw[F6 Y];exact λq=>a4 (by rw[show A=j from q];exact hj)
  .rw[f2];have q:=ht x;rw[aq,aS] at q;have ea:=hp a aA;unfold Pu;by_cases e2:x=a.1
   .rw[Χ (show x=(jI to (a,A)).a1 from e2)]
    have e3:du W (jI to (a,A))=W.id a.1+a.2:=by
     unfold du;rw[Χ (B.imp h5),Ν (λq=>B.g.ne ((B.imp h5).trans q.symm))];show W.id a.1+a.2 - 0=_;omega
    rw[e3];rw[e2] at q;omega
   .rw[Ν (show ¬x=(jI to (a,A)).a1 from e2)];omega
def SN(am:List (Int×Int)):Prop:=(1<=am.length/\am.length<=64)/\∀p∈am,(0<=p.1/\p.1<4)/\1<=p.2/\p.2<=1099511627776
theorem LX{A n:Int}(h0:0<=A)(K:1<=n/\n<=1099511627776):ki [(A,0,n)] n:=by
 have B:∀x∈[((A,0,n):h2)],a0 x:=λx O=>by
  rw[F6 O];exact⟨h0,bE _,by dsimp only;omega,K.1,by dsimp only;omega⟩
 have hs:aY [((A,0,n):h2)]=n:=by rw[gB,jR];show n+0=n;omega
 refine⟨⟨B,aj⟩,hs,?_⟩;rw[(sK B).2 (dD _ _)];exact hs
theorem Ix{c:B0}(hc:c.B5.length=4){now Δ E f t:Int}{am:List (Int×Int)}(hk:Δ=2\/Δ=6)(ht:now<=E/\E<=1099511627776)(ha:SN am)(hf:0<f/\f<=1073741824)(T:Δ=2->0<t/\t<=1073741824/\f≠t)(h6:Δ=6->t=0):gC c now (H7 Δ E (B2 f t am)):=by
 have U:(B2 f t am).length=am.length:=al _;refine⟨by show 0<=Δ/\Δ<=10;omega,⟨by show(0:Int)<=0;decide,by show(0:Int)<=1073741824;decide⟩,ht,by show 1<=(B2 f t am).length/\(B2 f t am).length<=64;rw[U];exact ha.1,λm hm=>?_,?_⟩
 .obtain⟨p,hp,rfl⟩:=H9 hm;obtain⟨q1,q2⟩:=ha.2 p hp;refine⟨⟨⟨q1.1,aj⟩,q2,?_,?_⟩,?_⟩
  .grind
  .grind
  .rw[Ν (by show ¬gU Δ=true;rw[po D];decide)];rfl
 .unfold ng;rw[Ν (by show ¬Δ=4;omega),Ν (by show ¬Δ=10;omega)];refine⟨λm hm=>?_,rfl,rfl⟩;obtain⟨p,hp,rfl⟩:=H9 hm;show iw Δ _;grind [iw]
def Iy{c:B0}(hc:c.B5.length=4){now E to:Int}{am:List (Int×Int)}{gR:List Int}(ht:now<=E/\E<=1099511627776)(ha:SN am)(U:gR.length=am.length)(hi:∀A∈gR,0<=A)(M:0<to/\to<=1073741824):gC c now (H7 5 E (G7 to am gR)):=by
 have B:=nv (to:=to) U;refine⟨by show(0:Int)<=5/\(5:Int)<=10;decide,⟨by show(0:Int)<=0;decide,by show(0:Int)<=1073741824;decide⟩,ht,by show 1<=(G7 to am gR).length/\(G7 to am gR).length<=64;rw[B];exact ha.1,λm hm=>?_,?_⟩
 .obtain⟨p,hp,rfl⟩:=H9 hm;obtain⟨q1,q2⟩:=ha.2 p.1 (fP hp).1;have h0:=hi p.2 (fP hp).2;refine⟨⟨⟨q1.1,by rw[hc];exact q1.2⟩,q2,?_,?_⟩,?_⟩
  .show(0:Int)≠to;omega
  .show 0<=(0:Int)/\0<=to/\(0:Int)<=1073741824/\to<=1073741824;omega
  .rw[Χ (show gU (H7 5 E (G7 to am gR)).Δ=true from bN (.inl rfl))];exact LX h0 q2
 .unfold ng;rw[Ν (by show ¬(5:Int)=4;decide),Ν (by show ¬(5:Int)=10;decide)];refine⟨λm hm=>?_,rfl,rfl⟩;obtain⟨p,hp,rfl⟩:=H9 hm;show iw 5 _;unfold iw;rw[Χ (.inr rfl)];rfl
theorem Ja{d:Int}{c:B0}(a2:0<=d/\d<12){S:Ρ}(h:P5 d c S)(hc:S.π.B5.length=4)(a5:S.D8=d){E to:Int}{am:List (Int×Int)}{gR:List Int}(hk:dg S+2*am.length<=2000)(ht:S.now<=E/\E<=1099511627776)(ha:SN am)(U:gR.length=am.length)(hn:gR.Nodup)(hi:∀A∈gR,0<=A/\¬(A / 4294967296=d\/11<A / 4294967296)/\∀y∈dm S.Κ,y.1≠A)(a4:∀x,S.id x+(am.map (·.2)).sum<=1099511627776)(a3:0<to/\to<=1073741824):E6 S 5 E (G7 to am gR)=true:=by
 obtain⟨i1,i2,i3⟩:=h.all a2 D;have hp:=Iy hc (now:=S.now) (E:=E) ht ha U aj a3;have B:=kC (to:=to) U;unfold E6;refine bN ?_;unfold E2;rw[Ν D,Ν aj];refine uG (by have:=i1.g.D8;omega) rfl am gR (ND S) (dg S) (xj i1) (mF hp) (by rw[B];exact hk) hn (λA q=>?_) (λx=>a4 x) λp M=>by have:=(ha.2 p M).2;omega
 grind [ND]
theorem yY{d:Int}{c:B0}(B:0<=d/\d<12){S:Ρ}(h:P5 d c S)(hc:S.π.B5.length=4){Δ E f t:Int}{am:List (Int×Int)}(hk:dg S+am.length<=2000)(M:Δ=2\/Δ=6)(ht:S.now<=E/\E<=1099511627776)(ha:SN am)(hf:0<f/\f<=1073741824)(T:Δ=2->0<t/\t<=1073741824/\f≠t)(h6:Δ=6->t=0)(hb:∀x,(am.map λp=>if x=p.1 then p.2 else 0).sum<=aY (S.ν f x)):E6 S Δ E (B2 f t am)=true:=by
 obtain⟨i1,i2,i3⟩:=h.all B D;refine bN (FZ B h (by show dg S+C5 (B2 f t am)<=2000;rw[gV];exact hk) (Ix hc M ht ha hf T h6) (λm hm=>?_) λa x a2=>?_)
 .obtain⟨p,hp,rfl⟩:=H9 hm;grind
 .show Og a x (B2 f t am)<=_;rw[ma];by_cases e:a=f
  .grind
  .rw[Ν e];exact vu λy Y=>(i1.g.ν a x).C8 y Y
def NS(x:Int)(am:List (Int×Int)):Int:=(am.map λp=>if x=p.1 then p.2 else 0).sum
def gZ(x:Int)(o:hy):Int:=if o.state=0 then NS x o.Υ.am else 0
def gw(x:Int)(os:List hy):Int:=(os.map (gZ x)).sum
structure Qz (l:lu):Prop where
 am:SN l.am
 fr:0<l.fr/\l.fr<268435456
 to:0<l.to/\l.to<268435456
theorem rQ{d:Int}{c:B0}(M:0<=d/\d<12){S:Ρ}(h:P5 d c S){Δ E f t:Int}{am:List (Int×Int)}(hk:dg S+am.length<=2000)(B:E6 S Δ E (B2 f t am)=true):∀a x,a≠0->aY ((L4 S Δ E (B2 f t am)).ν a x)=aY (S.ν a x) - (if a=f then NS x am else 0)+(if a=t then NS x am else 0):=λa x ha=>by
 have h0:(E2 S (H7 Δ E (B2 f t am))).1=0:=by
  by_cases q:(E2 S (H7 Δ E (B2 f t am))).1=0
  .exact q
  .unfold E6 at B;rw[bB q] at B;cases B
 have q:=lB M h (s:=H7 Δ E (B2 f t am)) (by show dg S+C5 (B2 f t am)<=2000;rw[gV];exact hk) h0 a x ha;rw[show(H7 Δ E (B2 f t am)).fe=B2 f t am from rfl,ma,mI] at q;exact q
theorem Kb{d:Int}{c:B0}(B:0<=d/\d<12){S:Ρ}(h:P5 d c S)(hc:S.π.B5.length=4){A bI Ι E:Int}{o:hy}(h0:o.state=0)(hk:dg S+o.Υ.am.length<=2000)(ht:S.now<=E/\E<=1099511627776)(U:Qz o.Υ)(hh:268435456<=Ι/\Ι<=1073741824)(hb:∀x,gZ x o<=aY (S.ν Ι x)) :
  (bV d A bI Ι E o S).2.1.state≠0/\∀a x,268435456<=a->aY ((bV d A bI Ι E o S).2.2.ν a x)=aY (S.ν a x) - (if a=Ι then gZ x o else 0):=by
 have O:∀x,gZ x o=NS x o.Υ.am:=λx=>Χ h0;have a4:=U.fr;have a5:=U.to;unfold bV;rw[Ν D];by_cases K:bI=1/\o.Υ.ts≠d
 .rw[Χ K];have a2:E6 S 6 E (B2 Ι 0 o.Υ.am)=true:=yY B h hc hk (.inr rfl) ht U.am D (λq=>hD q ae) (λ_=>rfl) λx=>by have:=hb x;rw[O] at this;exact this
  grind [rQ]
 rw[Ν K];obtain⟨t,M⟩:∃t,(if bI=2 then o.Υ.fr else o.Υ.to)=t:=⟨_,rfl⟩
 have a3:0<t/\t<268435456:=by
  rw[<-M];split<;>omega
 rw[M];have a2:E6 S 2 E (B2 Ι t o.Υ.am)=true:=yY B h hc hk (.inl rfl) ht U.am D (λ_=>⟨a3.1,D,D⟩) (λq=>hD q ae) λx=>by have:=hb x;rw[O] at this;exact this
 grind [rQ]
theorem kN{S:Ρ}{Δ E:Int}{Q:List A8}(h:E6 S Δ E Q=true):(E2 S (H7 Δ E Q)).1=0:=by
 grind [E6,bB]
def Lt{S:Ρ}{Δ E:Int}{Q:List A8}(h:E6 S Δ E Q=true):(L4 S Δ E Q).now=E:=by
 have h0:=kN h;show(bM S (H7 Δ E Q)).now=E;rw[show bM S (H7 Δ E Q)=fC S (H7 Δ E Q) from Χ h0];unfold Ρ.now fC;dsimp only;rw[List.getLast?_append];rfl
structure QU (d:Int) (c:B0) (E:Int) (S:Ρ):Prop where
 rep:P5 d c S
 π:S.π.B5.length=4
 now:S.now<=E
def QU.TC{d:Int}{c:B0}{E:Int}{S:Ρ}(h:QU d c E S){Δ:Int}{Q:List A8}(B:E6 S Δ E Q=true):QU d c E (L4 S Δ E Q) :=
 ⟨.post h.rep (kN B),by show(bM S (H7 Δ E Q)).π.B5.length=4;rw[wE];exact h.π,by rw[Lt B];omega⟩
theorem xA{d:Int}{c:B0}{A bI Ι E:Int}{o:hy}{S:Ρ}(h:QU d c E S):QU d c E (bV d A bI Ι E o S).2.2:=by
 unfold bV;by_cases h0:o.state≠0
 .grind
 rw[Ν h0];by_cases K:bI=1/\o.Υ.ts≠d
 .rw[Χ K];by_cases T:E6 S 6 E (B2 Ι 0 o.Υ.am)=true
  .rw[Χ T];exact h.TC T
  grind
 rw[Ν K];generalize (if bI=2 then o.Υ.fr else o.Υ.to)=t;by_cases T:E6 S 2 E (B2 Ι t o.Υ.am)=true
 .rw[Χ T];exact h.TC T
 grind
theorem My{x:Int}{am:List (Int×Int)}(h:SN am):0<=NS x am:=by
 have q:∀l:List (Int×Int),(∀p∈l,1<=p.2)->0<=(l.map λp=>if x=p.1 then p.2 else 0).sum:=λl=>by
  induction l with
  | nil=>grind
  | cons a l ih =>
   grind
 exact q am λp hp=>(h.2 p hp).2.1
def Jc{x:Int}{o:hy}(h:Qz o.Υ):0<=gZ x o:=by
 unfold gZ;split
 .exact My h.am
 omega
theorem iU(x:Int)(o:hy)(os:List hy):gw x (o::os)=gZ x o+gw x os:=by
 grind [gw]
def zB{x:Int}:∀{os:List hy},(∀o∈os,Qz o.Υ)->0<=gw x os
 | [],_=>bE _
 | o::os,h=>by
  have K:=Jc (x:=x) (h o aA);have T:=zB (x:=x) λy Y=>h y (az _ Y);rw[iU];omega
def Ch{d:Int}{c:B0}(M:0<=d/\d<12){A bI Ι E:Int}(hh:268435456<=Ι/\Ι<=1073741824)(ht:E<=1099511627776):∀(os:List hy) (S:Ρ),QU d c E S->(∀o∈os,Qz o.Υ)->dg S+cl os<=2000->(∀x,gw x os<=aY (S.ν Ι x)) ->
  QU d c E (xs (bV d A bI Ι E) os S).2.2/\(∀o∈(xs (bV d A bI Ι E) os S).2.1,o.state≠0)/\∀a x,268435456<=a->aY ((xs (bV d A bI Ι E) os S).2.2.ν a x)=aY (S.ν a x) - (if a=Ι then gw x os else 0)
 | [],S,h,_,_,_=>⟨h,λo ho=>(by cases ho),λa x _=>by
  show aY (S.ν a x)=aY (S.ν a x) - (if a=Ι then 0 else 0);split<;>omega⟩
 | o::os,S,h,U,hk,hb=>by
  have a2:=U o aA;have B:=λy Y=>U y (az _ Y);have ek:cl (o::os)=dW o+cl os:=by unfold cl;rw[aq,aS]
  have K:(bV d A bI Ι E o S).2.1.state≠0/\∀a x,268435456<=a->aY ((bV d A bI Ι E o S).2.2.ν a x)=aY (S.ν a x) - (if a=Ι then gZ x o else 0):=by
   by_cases h0:o.state=0
   .have eo:dW o=o.Υ.am.length:=Χ h0;refine Kb M h.rep h.π h0 D ⟨h.now,ht⟩ a2 hh λx=>?_;have q:=hb x;rw[iU] at q;have:=zB (x:=x) B
    omega
   .have e:bV d A bI Ι E o S=([],o,S):=Χ h0;rw[e];refine⟨h0,λa x _=>?_⟩;have ex:gZ x o=0:=Ν h0;rw[ex];show aY (S.ν a x)=aY (S.ν a x) - (if a=Ι then 0 else 0);split<;>omega
  have hp:=nc (d:=d) (A:=A) (bI:=bI) (Ι:=Ι) (E:=E) (o:=o) (S:=S)
  obtain⟨q1,q2,q3⟩:=Ch M hh ht os (bV d A bI Ι E o S).2.2 (xA h) B D λx=>by
   rw[K.2 Ι x hh.1,Χ rfl];have q:=hb x;rw[iU] at q;omega
  refine⟨q1,λy Y=>?_,λa x ha=>?_⟩
  .rcases Nj Y with rfl|Y
   .exact K.1
   .exact q2 y Y
  .show aY ((xs (bV d A bI Ι E) os (bV d A bI Ι E o S).2.2).2.2.ν a x)=_;rw[q3 a x ha,K.2 a x ha,iU];split<;>omega
structure N0 (d:Int) (c:B0) (E:Int) (N:υ) (S:Ρ):Prop where
 ld:QU d c E S
 U:0<=N.U/\N.U<=2000
 pt:∀A p,ζ N.Β A=some p->p.Z≠[]->(268435456<=p.Ι/\p.Ι<268435456+N.U)/\(∀o∈p.Z,Qz o.Υ)/\∀x,aY (S.ν p.Ι x)=gw x p.Z
 ap:∀A id' p p',A≠id'->ζ N.Β A=some p->ζ N.Β id' = some p'->p.Z≠[]->p'.Z≠[]->p.Ι≠p'.Ι
 new:∀a x,268435456+N.U<=a->aY (S.ν a x)=0
 fin:∀A p,ζ N.Β A=some p->p.state=1\/p.state=2->∀o∈p.Z,o.state≠0
theorem yR(a x:Int)(l r:List A8):Og a x (l++r)=Og a x l+Og a x r:=by
 grind [Og]
theorem wx(a x:Int)(l r:List A8):gD a x (l++r)=gD a x l+gD a x r:=by
 grind [gD]
theorem uC{a x Ι:Int}(ha:268435456<=a):∀{os:List hy},(∀o∈os,Qz o.Υ/\o.state=0)->Og a x (dy Ι os)=0/\gD a x (dy Ι os)=if a=Ι then gw x os else 0
 | [],_=>⟨rfl,by show(0:Int)=if a=Ι then 0 else 0;omega⟩
 | o::os,h=>by
  obtain⟨K,T⟩:=h o aj;obtain⟨i1,i2⟩:=uC (a:=a) (x:=x) (Ι:=Ι) ha λy Y=>h y (az _ Y);have e:dy Ι (o::os)=B2 o.Υ.fr Ι o.Υ.am++dy Ι os:=by unfold dy;rw[aT]
  have B:=K.fr;have O:gZ x o=NS x o.Υ.am:=Χ T;rw[e,yR,wx,i1,i2,ma,mI,Ν (D:¬a=o.Υ.fr),iU,O];refine⟨D,?_⟩;unfold NS;split<;>omega
theorem Mn{d:Int}{c:B0}{E:Int}(M:0<=d/\d<12){S:Ρ}(h:QU d c E S){Ι:Int}{os:List hy}(a2:∀o∈os,Qz o.Υ/\o.state=0)(hk:dg S+cl os<=2000)(B:E6 S 2 E (dy Ι os)=true):QU d c E (L4 S 2 E (dy Ι os))/\∀a x,268435456<=a->aY ((L4 S 2 E (dy Ι os)).ν a x)=aY (S.ν a x)+if a=Ι then gw x os else 0:=by
 refine⟨h.TC B,λa x ha=>?_⟩;have q:=lB M h.rep (s:=H7 2 E (dy Ι os)) (by show dg S+C5 (dy Ι os)<=2000;grind [kL]) (kN B) a x D;grind [uC,H7]
theorem KC{d:Int}{c:B0}{E:Int}(a7:0<=d/\d<12){N:υ}{S:Ρ}(h:N0 d c E N S){m:G3}(hm:∀l∈m.Z,Qz l)(hk:dg S+cl (B3 d 0 m.Z)<=2000)(a9:N.U+1<=2000):N0 d c E (eN d m E N S).2.1 (eN d m E N S).2.2:=by
 unfold eN;cases hp:ζ N.Β m.A with
 | some p=>exact h
 | none =>
  have a6:∀o∈B3 d 0 m.Z,Qz o.Υ/\o.state=0:=λo ho=>by
   obtain⟨⟨_,q⟩,_,q3⟩:=iX ho;grind
  have h0:=h.U;dsimp only;by_cases K:E6 S 2 E (dy (268435456+N.U) (B3 d 0 m.Z))=true
  .rw[Χ K];obtain⟨q1,q2⟩:=Mn a7 h.ld a6 hk K;have B:∀A p,ζ (cZ N.Β m.A ⟨0,268435456+N.U,B3 d 0 m.Z⟩) A=some p->(A=m.A/\p=⟨0,268435456+N.U,B3 d 0 m.Z⟩)\/(A≠m.A/\ζ N.Β A=some p):=by grind [cF]
   refine⟨q1,aj,λA p q M=>?_,λA a2 p p' M q q' a3 a4=>?_,λa x ha=>?_,λA p q a5=>?_⟩
   .rcases B A p q with⟨_,rfl⟩|⟨_,q⟩
    .refine⟨aj,λo ho=>(a6 o ho).1,λx=>?_⟩;show aY ((L4 S 2 E (dy (268435456+N.U) (B3 d 0 m.Z))).ν (268435456+N.U) x)=_;rw[q2 _ x D,Χ rfl,h.new _ x D];grind
    .obtain⟨r1,r2,r3⟩:=h.pt A p q M;grind
   .rcases B A p q with⟨e,rfl⟩|⟨e,q⟩
    .rcases B a2 p' q' with⟨e',rfl⟩|⟨e',q'⟩
     .omega
     .have:=(h.pt a2 p' q' a4).1
      grind
    .rcases B a2 p' q' with⟨e',rfl⟩|⟨e',q'⟩
     .have:=(h.pt A p q a3).1
      grind
     .exact h.ap A a2 p p' M q q' a3 a4
   .have ha:268435456+(N.U+1)<=a:=ha;show aY ((L4 S 2 E (dy (268435456+N.U) (B3 d 0 m.Z))).ν a x)=0;rw[q2 a x D,Ν D,h.new a x D];rfl
   .rcases B A p q with⟨_,rfl⟩|⟨_,q⟩
    .grind
    .exact h.fin A p q a5
  .rw[Ν K];have B:∀A p,ζ (cZ N.Β m.A ⟨3,268435456+N.U,[]⟩) A=some p->p=⟨3,268435456+N.U,[]⟩\/ζ N.Β A=some p:=by grind [cF]
   refine⟨h.ld,h.U,λA p q M=>?_,λA a2 p p' M q q' a3 a4=>?_,h.new,λA p q a5=>?_⟩
   .rcases B A p q with rfl|q
    .grind
    .exact h.pt A p q M
   .rcases B A p q with rfl|q
    .grind
    .rcases B a2 p' q' with rfl|q'
     .grind
     .exact h.ap A a2 p p' M q q' a3 a4
   .rcases B A p q with rfl|q
    .grind
    .exact h.fin A p q a5
theorem N0.K7{d:Int}{c:B0}{E:Int}{N:υ}{S S' : Ρ}(h:N0 d c E N S){A:Int}{p q:NF}(hp:ζ N.Β A=some p)(hq:q.Ι=p.Ι)(a3:q.Z≠[]->p.Z≠[])(b0:∀o∈q.Z,Qz o.Υ)(hS:QU d c E S')(hb:p.Z≠[]->∀a x,268435456<=a->aY (S'.ν a x)=aY (S.ν a x) - (if a=p.Ι then gw x p.Z - gw x q.Z else 0))(a4:p.Z=[]->S' = S)(hf:q.state=1\/q.state=2->∀o∈q.Z,o.state≠0):N0 d c E { N with Β:=cZ N.Β A q } S':=by
 have B:∀j y,ζ (cZ N.Β A q) j=some y->(j=A/\y=q)\/(j≠A/\ζ N.Β j=some y):=by grind [cF]
 have a6:∀j y,j≠A->ζ N.Β j=some y->y.Z≠[]->∀x,aY (S'.ν y.Ι x)=aY (S.ν y.Ι x):=λj y hj Y M x=>by
  by_cases e:p.Z=[]
  .rw[a4 e]
  .rw[hb e y.Ι x (h.pt j y Y M).1.1,Ν (h.ap j A y p hj Y hp M e)];omega
 refine⟨hS,h.U,λj y e M=>?_,λj j' y y' a7 e e' M a2=>?_,λa x ha=>?_,λj y e a5=>?_⟩
 .rcases B j y e with⟨_,rfl⟩|⟨r,e⟩
  .have a9:=a3 M;obtain⟨p1,p2,p3⟩:=h.pt A p hp a9;grind
  .obtain⟨p1,p2,p3⟩:=h.pt j y e M;grind
 .rcases B j y e with⟨r,rfl⟩|⟨r,e1⟩
  .rcases B j' y' e' with⟨r',rfl⟩|⟨r',e'⟩
   .omega
   .rw[hq];exact h.ap A j' p y' D hp e' (a3 M) a2
  .rcases B j' y' e' with⟨r',rfl⟩|⟨r',e2⟩
   .rw[hq];exact h.ap j A y p D e1 hp M (a3 a2)
   .exact h.ap j j' y y' a7 e1 e2 M a2
 .have hh:=h.U;have ha:268435456+N.U<=a:=ha;by_cases e:p.Z=[]
  .rw[a4 e];exact h.new a x ha
  .have:=(h.pt A p hp e).1
   rw[hb e a x D,Ν D,h.new a x ha];rfl
 .rcases B j y e with⟨_,rfl⟩|⟨_,e⟩
  .exact hf a5
  .exact h.fin j y e a5
def yb{f:hy->Ρ->List eU×hy×Ρ}(hf:∀o S,(f o S).2.1.Υ=o.Υ):∀(os:List hy) (S:Ρ),(xs f os S).2.1.map (·.Υ)=os.map (·.Υ)
 | [],_=>rfl
 | o::os,S=>by
  show List.map _ ((f o S).2.1::(xs f os (f o S).2.2).2.1)=_;rw[aq,aq,hf,yb hf os]
theorem pP{x:Int}:∀{os:List hy},(∀o∈os,o.state≠0)->gw x os=0
 | [],_=>rfl
 | o::os,h=>by
  rw[iU,pP λy Y=>h y (az _ Y),show gZ x o=0 from Ν (h o aA)];rfl
theorem N0.work{d:Int}{c:B0}{E:Int}(B:0<=d/\d<12)(ht:E<=1099511627776){N:υ}{S:Ρ}(h:N0 d c E N S){A st:Int}{p:NF}(hp:ζ N.Β A=some p)(hk:dg S+cl p.Z<=2000):N0 d c E { N with Β:=cZ N.Β A ⟨st,p.Ι,(xs (bV d A st p.Ι E) p.Z S).2.1⟩ } (xs (bV d A st p.Ι E) p.Z S).2.2:=by
 by_cases U:p.Z=[]
 .have e:xs (bV d A st p.Ι E) p.Z S=([],[],S):=by rw[U];rfl
  rw[e];exact h.K7 hp rfl aj aj h.ld aj (λ_=>rfl) aj
 .obtain⟨p1,p2,p3⟩:=h.pt A p hp U;have hh:=h.U;obtain⟨q1,q2,q3⟩:=Ch B (A:=A) (bI:=st) (Ι:=p.Ι) D ht p.Z S h.ld p2 hk aj;have e:=yb (f:=bV d A st p.Ι E) (λo S=>WR.1) p.Z S;refine h.K7 hp rfl (λ_=>U) (λo ho=>?_) q1 (λ_ a x ha=>?_) aj λ_=>q2
  .have m:o.Υ∈p.Z.map (·.Υ):=by rw[<-e];exact aj
   grind
  grind [pP]
theorem wy{a x to:Int}(ha:a≠0)(ht:a≠to):∀(am:List (Int×Int)) (gR:List Int),Og a x (G7 to am gR)=0/\gD a x (G7 to am gR)=0
 | [],_=>⟨rfl,rfl⟩
 | _::_,[]=>⟨rfl,rfl⟩
 | p::am,i::gR=>by
  obtain⟨K,T⟩:=wy (x:=x) ha ht am gR
  have e1:Og a x (G7 to (p::am) (i::gR))=(if a=0 then(if x=p.1 then p.2 else 0) else 0)+Og a x (G7 to am gR):=by
   unfold Og G7;rw[List.zip_cons_cons,aq,aq,aS];rfl
  have e2:gD a x (G7 to (p::am) (i::gR))=(if a=to then(if x=p.1 then p.2 else 0) else 0)+gD a x (G7 to am gR):=by
   unfold gD G7;rw[List.zip_cons_cons,aq,aq,aS];rfl
  rw[e1,e2,Ν ha,Ν ht,K,T];exact⟨rfl,rfl⟩
theorem N0.K1{d:Int}{c:B0}{E:Int}{N:υ}{S S' : Ρ}(h:N0 d c E N S)(hS:QU d c E S')(hb:∀a x,268435456<=a->aY (S'.ν a x)=aY (S.ν a x)){rv:List (Int×Int)}:N0 d c E { N with sh:=rv } S':=by
 have hh:=h.U;refine⟨hS,h.U,λA p q B=>?_,h.ap,λa x ha=>?_,h.fin⟩
 .obtain⟨p1,p2,p3⟩:=h.pt A p q B;grind
 .have ha:268435456+N.U<=a:=ha;rw[hb a x D];exact h.new a x ha
def N0.bg{d:Int}{c:B0}{E:Int}{N:υ}{S:Ρ}(h:N0 d c E N S){μ:Int}{b:List (Int×K6)}:N0 d c E { N with μ:=μ,Φ:=b } S:=⟨h.ld,h.U,h.pt,h.ap,h.new,h.fin⟩
theorem N0.ZV{d:Int}{c:B0}{E:Int}{N:υ}{S:Ρ}(h:N0 d c E N S){A Ι:Int}:N0 d c E { N with Β:=cZ N.Β A ⟨3,Ι,[]⟩ } S:=by
 have B:∀j p,ζ (cZ N.Β A ⟨3,Ι,[]⟩) j=some p->p=⟨3,Ι,[]⟩\/ζ N.Β j=some p:=by grind [cF]
 refine⟨h.ld,h.U,λj p q M=>?_,λj j' p p' M q q' a2 a3=>?_,h.new,λj p q a4=>?_⟩
 .rcases B j p q with rfl|q
  .grind
  .exact h.pt j p q M
 .rcases B j p q with rfl|q
  .grind
  .rcases B j' p' q' with rfl|q'
   .grind
   .exact h.ap j j' p p' M q q' a2 a3
 .rcases B j p q with rfl|q
  .grind
  .exact h.fin j p q a4
theorem Hv{d:Int}{c:B0}{E:Int}(B:0<=d/\d<12)(ht:E<=1099511627776){N:υ}{S:Ρ}(h:N0 d c E N S){m:G3}(hk:dg S+F0 N<=2000):N0 d c E (dt d m E N S).2.1 (dt d m E N S).2.2:=by
 unfold dt;cases hp:ζ N.Β m.A with
 | none=>exact h.ZV
 | some p =>
  dsimp only;split
  .rw[iB];exact h.work B ht hp (by have:=lA (bQ hp);grind)
  .exact h
theorem Mp{d:Int}{c:B0}{E:Int}{N:υ}{S:Ρ}(h:N0 d c E N S){m:G3}:N0 d c E (O4 m N S).2.1 (O4 m N S).2.2:=by
 unfold O4 υ.K7;cases hp:ζ N.Β m.A with
 | none=>exact h
 | some p =>
  dsimp only
  have e:∀x,gw x (p.Z.map (eY m.ω))=gw x p.Z:=λx=>by
   unfold gw;rw[co];refine congrArg List.sum (aV λo _=>?_);show gZ x (eY m.ω o)=gZ x o;unfold eY;split
   .rename_i q;show(if(2:Int)=0 then _ else 0)=_;rw[Ν ae,show gZ x o=0 from Ν D]
   .rfl
  have lg:∀o,(eY m.ω o).Υ=o.Υ:=λo=>by unfold eY;split<;>rfl
  refine h.K7 hp rfl (λq e=>q (by rw[e];rfl)) (λo ho=>?_) h.ld (λU a x ha=>?_) (λ_=>rfl) λM o ho=>?_
  .obtain⟨o',B,rfl⟩:=H9 ho;rw[lg];exact(h.pt m.A p hp (λq=>by rw[q] at B;cases B)).2.1 o' B
  .show _=_ - (if a=p.Ι then gw x p.Z - gw x (p.Z.map (eY m.ω)) else 0);rw[e];split<;>omega
  .obtain⟨o',B,rfl⟩:=H9 ho;have q:=h.fin m.A p hp M o' B;unfold eY;split
   .show(2:Int)≠0;decide
   .exact q
theorem Ic{d Λ:Int}{c:B0}{E:Int}(a2:0<=d/\d<12){N:υ}{S:Ρ}(h:N0 d c E N S){m:G3}(hm:∀l∈m.Z,Qz l)(hk:∀l∈m.Z,dg S+2*l.am.length<=2000):N0 d c E (dU d Λ m E N S).2.1 (dU d Λ m E N S).2.2:=by
 unfold dU;split
 .exact h
 split
 .rename_i U;split
  .rename_i B;have e:m.Z[0]!∈m.Z:=aj;have M:=hm _ e;have a3:=M.to;refine h.K1 (h.ld.TC B) λa x ha=>?_;have q:=lB a2 h.ld.rep (s:=H7 5 E (G7 m.Z[0]!.to m.Z[0]!.am m.Κ)) (by show dg S+C5 (G7 m.Z[0]!.to m.Z[0]!.am m.Κ)<=2000;rw[kC U.2];exact hk _ e) (kN B) a x D;grind [wy,H7]
  .exact h
 .exact h
theorem Lb{d Λ:Int}{c:B0}{E:Int}(B:0<=d/\d<12)(ht:E<=1099511627776){N:υ}{S:Ρ}(h:N0 d c E N S){m:G3}(hm:m.Δ=1\/m.Δ=5->∀l∈m.Z,Qz l)(K:m.Δ=1->ζ N.Β m.A=none->dg S+cl (B3 d 0 m.Z)<=2000/\N.U+1<=2000)(h5:m.Δ=5->∀l∈m.Z,dg S+2*l.am.length<=2000)(hk:dg S+F0 N<=2000):N0 d c E (be d Λ m E N S).2.1 (be d Λ m E N S).2.2:=by
 unfold be;by_cases k1:m.Δ=1
 .grind [eN,KC]
 rw[Ν k1];by_cases k2:m.Δ=2
 .rw[Χ k2];unfold em;cases O:ζ N.Φ m.A with
  | none=>exact h
  | some x =>
   dsimp only;split
   .exact h
   split
   .exact h.bg (μ:=N.μ)
   split
   .exact h.bg (μ:=N.μ)
   .exact h.bg (μ:=N.μ)
 rw[Ν k2];by_cases k3:m.Δ=3
 .rw[Χ k3];exact Hv B ht h hk
 rw[Ν k3];by_cases k4:m.Δ=4
 .rw[Χ k4];unfold gc υ.J1;cases O:ζ N.Φ m.A with
  | none=>exact h
  | some x=>exact h.bg (μ:=N.μ)
 grind [Ic,Mp]
def Md{n:Int}{l:lu}(h:Ur n l)(hf:kl l.fr):Qz l:=by
 have K:=h.fr;have T:=h.to;have h3:=h.len;have h4:1<=l.fr:=hf.1;refine⟨⟨D,λp hp=>?_⟩,D,D⟩;have q:=h.am p hp;have q1:=q.1;have q2:=q.2;omega
def Uz(g:Gh):Prop:=∀A ls,g.Α A=some ls->∀l∈ls,Qz l
theorem Uz.G5{g:Gh}(h:Uz g){A:Int}{ls:List lu}(U:∀l∈ls,Qz l):Uz (g.G5 A ls):=λj B q l hm=>by
 have e:(g.G5 A ls).Α j=if j=A then some ls else g.Α j:=rfl;rw[e] at q;by_cases r:j=A
 .grind
 .rw[Ν r] at q;exact h j B q l hm
theorem Uz.Υ{g:Gh}(h:Uz g){k:Int×Int}{l:lu}(U:g.Υ k=some l):Qz l:=by
 unfold Gh.Υ at U;cases hG:g.Α k.1 with
 | none=>grind
 | some ls =>
  rw[hG] at U;dsimp only at U;by_cases h0:0<=k.2
  .rw[Χ h0] at U;exact h k.1 ls hG l aj
  grind
def L5.ZW{g:Gh}{y:eU}(h:L5 g y)(hg:Uz g)(hk:y.ct.Δ=1\/y.ct.Δ=5):∀l∈y.ct.Z,Qz l:=λl U=>by
 rcases hk with k|k
 .exact hg _ _ (h.pr k) l U
 .obtain⟨l',q1,q2,_⟩:=h.tr k;rw[q2] at U;rw[F6 U];exact hg.Υ q1
