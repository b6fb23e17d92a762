/- Lemmas. -/
import Derived.Test.YtlgpgjdggilkgaaGreatDoorEtbp
set_option linter.all false
set_option maxHeartbeats 4000000
namespace Go.Proofs.YtlgpgjdggilkgaaGreatDoor
section
open Go.V
abbrev St(W:iK):Prop:=∀y∈W.Q,y.to≠y.Λ
theorem sF{f:Nat->Int->Nat}{c n:Nat}:∀{R:List Int},(∀A∈R,((List.range n).map λj=>f j A).sum<=c)->((List.range n).map λj=>(R.map (f j)).sum).sum<=c*R.length
 | [],_=>by
  grind [jW]
 | a::R,h=>by
  have ih:=sF (n:=n) (R:=R) λA B=>h A (az _ B);have K:=h a aA;have e:((List.range n).map λj=>((a::R).map (f j)).sum)=(List.range n).map λj=>f j a+(R.map (f j)).sum:=aj;rw[e,kK,aK,Nat.mul_add,ga];omega
section
variable {G:Int}{b:Nat}{b0:Int->Int->Int->Int}{R:List Int}{g0:Gh}{A9:Int}{iL:Int->Prop}{C1 C2:Int->Int->Prop}{p q:Nat}{W W' : iK}{i A u:Int}{m:eU}{cN:List eU}{c bW ε ac:Nat}
def D3.X8(h:D3 G b b0 R g0 A9 iL C1 C2 p W){Q:List eU}(hm:∀y∈W.Q,y∈Q\/(y.Λ=i/\y.to≠i)\/y.ct.Δ=5)(U:∀y∈Q,y.to≠y.Λ):St W:=λy Y=>by
 obtain⟨g,_,hP,_⟩:=h.ex;have hT:=hP.ag.Q y Y;rcases hm y Y with q|⟨q1,q2⟩|q
 .exact U y q
 .rw[q1];exact q2
 .obtain⟨⟨l,_,_,_,l4,_⟩,_⟩:=hT.tr q;exact Ne.symm l4
def D3.X9(h:D3 G b b0 R g0 A9 iL C1 C2 p W)(hW:F8 G c bW ε ac W):F8 G c b ε ac W:=by
 obtain⟨g,_,hP,_⟩:=h.ex;exact hW.lower λi hi=>aO (uk g R i _ _) (hP.cv.pn i hi)
theorem De(h:D3 G b b0 R g0 A9 iL C1 C2 p W)(hW:F8 G c b ε ac W)(hk:St W){late:Prop}(B:late->A9<W.E):∀k:Nat,(k:Int)<=G->D3 G b b0 R g0 A9 iL (λj A=>C1 j A\/(late/\j<k)) (λj A=>C2 j A\/j<k) (p+((List.range k).map λj:Nat=>(R.map (aw g0 G (j:Int))).sum).sum) (Oj W k)/\St (Oj W k)/\(Oj W k).E=W.E/\(Oj W k).gR=W.gR
 | 0,_=>⟨h.SO (λj A hj hc=>by
   rcases hc with hc|⟨_,hc⟩
   .exact h.c1 j A hj hc
   .omega) λj A hj hc=>by
   rcases hc with hc|hc
   .exact h.c2 j A hj hc
   .omega,hk,rfl,rfl⟩
 | k+1,hks=>by
  obtain⟨K,T,h3,h4⟩:=De h hW hk B k D;obtain⟨g,_,hP,_⟩:=h.ex;have hb:=hP.hb;have a2:=(rR hW hP.cv D k D).1;have M:0<=(k:Int)/\(k:Int)<G:=D;have h5:=K.Ut M (a2.at M).a.OP.nb (late:=late) aj;have e:Oj W (k+1)=(Oj W k).put (k:Int) (dv (k:Int) (Oj W k).E ((Oj W k).nd k).1 ((Oj W k).nd k).2) (Oj W k).Q:=rfl;rw[e];refine⟨?_,?_,h3,h4⟩
  .rw[dc,aQ,dG,List.map_singleton,List.sum_singleton,<-dh];grind
  .refine h5.X8 (Q:=(Oj W k).Q) (i:=(k:Int)) (λy Y=>?_) T;rcases J8 Y with Y|Y
   .exact .inl Y
   .exact .inr (Dc y Y)
theorem CX(h:D3 G b b0 R g0 A9 iL C1 C2 p W)(hk:St W):∀k:Nat,∃p',D3 G b b0 R g0 A9 iL C1 C2 p' (Ox G W k)/\St (Ox G W k)/\p'<=p/\((Ox G W k).Q=[]\/p' + k<=p)/\(Ox G W k).E=W.E/\(Ox G W k).gR=W.gR
 | 0=>⟨p,h,hk,an _,.inr (an _),rfl,rfl⟩
 | k+1=>by
  obtain⟨p',K,T,h3,h4,h5,h6⟩:=CX h hk k;have e:Ox G W (k+1)=NO G (Ox G W k):=rfl;rw[e];generalize Ox G W k=V at *;unfold NO;cases hm:V.Q with
  | nil=>grind
  | cons m Q =>
   have hp:V.Q.Perm (m::Q):=by rw[hm]
   obtain⟨g,_,hP,hq⟩:=K.ex;obtain⟨hi,hT,_⟩:=hP.room (m:=m) aj;have B:=T m aj;dsimp only;rw[Χ hi]
   have M:1<=p':=by
    have e2:PN g R G V=wS V.Q+((List.range G.toNat).map λj:Nat=>N8 g R (j:Int) (V.nf j)).sum:=rfl;rw[hm,mT] at e2;have:1<=wt m:=by unfold wt;rw[Ν B];unfold Rq;split<;>omega
    omega
   have h7:=D3.sh (q:=p' - 1) (by rw[show p' - 1+1=p' by omega];exact K) hp B;refine⟨p' - 1,h7,?_,D,.inr ?_,h5,h6⟩
   .refine h7.X8 (Q:=Q) (i:=m.to) (λy Y=>?_) aj;rcases J8 Y with Y|Y
    .exact .inl Y
    .exact .inr (.inl (sM y Y))
   grind
def D3.Z2(h:D3 G b b0 R g0 A9 iL C1 C2 p W):((List.range G.toNat).map λj:Nat=>(R.map (aw g0 G (j:Int))).sum).sum<=12*R.length:=by
 obtain⟨g,e,hP,_⟩:=h.ex;have hr:=hP.Nw;refine sF (f:=λj:Nat=>aw g0 G (j:Int)) λA _=>MZ (λA ls q=>hP.gr A ls (by rw[e];exact q)) hr.2 λls q=>(hP.ag.rg A ls (by rw[e];exact q)).1
theorem D3.Z3(h:D3 G b b0 R g0 A9 iL C1 C2 p W)(hm:W.Q=[]):D3 G b b0 R g0 A9 iL C1 C2 (12*R.length) W:=by
 obtain⟨g,e,hP,_⟩:=h.ex;refine⟨⟨g,e,hP,?_⟩,h.un,h.no,h.c1,h.c2⟩;have hr:=hP.Nw;have e2:PN g R G W=wS W.Q+((List.range G.toNat).map λj:Nat=>N8 g R (j:Int) (W.nf j)).sum:=rfl;rw[e2,hm,show wS []=0 from rfl,dw];refine sF (f:=λj:Nat=>N7 g (j:Int) (W.nf j)) λA M=>?_;obtain⟨ls,hG⟩:=hP.cv.Rn A M;have U:cU g A=ls:=by unfold cU;rw[hG];rfl
 obtain⟨h4,a3⟩:=hP.gr A ls hG;have a4:=(hP.ag.rg A ls hG).1
 have q1:=sO (n:=G.toNat) (f:=λj:Nat=>(if bZ A=(j:Int) then 4 else 0)+2*(B3 (j:Int) 0 ls).length) (f':=λj:Nat=>N7 g (j:Int) (W.nf j) A) λj hj=>by
  have B:0<=(j:Int)/\(j:Int)<G:=D;unfold N7;refine cH ?_ ?_
  .unfold Sb;cases O:ζ (W.nf j).Φ A with
   | none=>exact aC _
   | some x =>
    obtain⟨r1,r2⟩:=hP.ag.bg j B A x O;dsimp only;rw[Χ r1,r2.O9];grind [EC]
  .unfold P8;cases O:ζ (W.nf j).Β A with
   | none =>
    grind [rn]
   | some x =>
    have hT:=hP.ag.pt j B A x O;obtain⟨l,r1,_,r3⟩:=hT.G5;dsimp only;refine aO (rn _ _) (Nat.mul_le_mul_left 2 ?_);by_cases z:x.state=3
    .rw[hT.s3 z];exact aC _
    grind [Rp,al]
 rw[kK,qD] at q1;have q2:=nO (n:=G.toNat) (i:=bZ A) (c:=4);have q3:=rB (G:=G) ls 0 λl a2=>(a3 l a2).d;omega
theorem ye(h:D3 G b b0 R g0 A9 iL Oh Oh p W)(hW:F8 G c b ε ac W)(hk:St W){late:Prop}(B:late->A9<W.E):∃p',D3 G b b0 R g0 A9 iL (λ_ _=>late) (λ_ _=>True) p' (iT G W)/\St (iT G W)/\((iT G W).Q=[]/\p'<=12*R.length\/p' + 400<=p+12*R.length)/\(iT G W).E=W.E/\(iT G W).gR=W.gR:=by
 have hr:=h.Nw;obtain⟨K,T,h3,h4⟩:=De h hW hk B G.toNat D;have a2:=h.Z2;have M:=K.SO (D1:=λ_ _=>late) (D2:=λ_ _=>True) (λj A hj hc=>K.c1 j A hj (.inr ⟨hc,D⟩)) λj A hj _=>K.c2 j A hj (.inr D);obtain⟨p',q1,q2,q3,q4,q5,q6⟩:=CX M T 400;have e:iT G W=Ox G (Oj W G.toNat) 400:=rfl;rw[e];rcases q4 with q4|q4
 .exact⟨_,q1.Z3 q4,q2,.inl ⟨q4,an _⟩,q5.trans h3,q6.trans h4⟩
 grind
structure Oa (G:Int) (W:iK):Prop where
 Q:W.Q=[]
 bg:∀j:Int,0<=j/\j<G->∀A x,ζ (W.nf j).Φ A=some x->x.dec=true/\∀k∈x.iM,k∈x.told
 pt:∀j:Int,0<=j/\j<G->∀A p,ζ (W.nf j).Β A=some p->p.state≠0/\∀o∈p.Z,o.state=2
theorem D3.closed{late:Prop}(h:D3 G b b0 R g0 A9 iL (λ_ _=>late) (λ_ _=>True) p W)(U:late)(hm:W.Q=[]):Oa G W:=by
 obtain⟨g,e,hP,_⟩:=h.ex;have a5:∀A k,¬U7 W.Q A k:=λA k ⟨y,Y,_⟩=>by rw[hm] at Y;cases Y
 have a4:∀A k,¬U8 W.Q A k:=λA k ⟨y,Y,_⟩=>by rw[hm] at Y;cases Y
 have M:∀j:Int,0<=j/\j<G->∀A x,ζ (W.nf j).Φ A=some x->x.dec=true/\∀k∈x.iM,k∈x.told:=λj hj A x O=>by
  obtain⟨q1,q2⟩:=h.c1 j A hj U x O;grind
 refine⟨hm,M,λj hj A p hp=>?_⟩;have hT:=hP.ag.pt j hj A p hp;obtain⟨ls,r1,r2,_⟩:=hT.G5
 have a2:p.state≠0:=by
  obtain⟨hc,x,O,a3⟩:=hP.ag.rg A ls r1;obtain⟨_,hE⟩:=hP.ag.bg _ hc A x O;have B:j∈x.told:=(M _ hc A x O).2 j (by rw[hE.O9,a3];exact r2);obtain⟨p2,z1,z2⟩:=hE.U5 j B;rw[hp] at z1;rw[Pr z1];exact z2
 refine⟨a2,λo ho=>?_⟩;have hO:=hT.ow o ho;have K:o.state≠1:=λz=>a4 _ _ (h.c2 j A hj trivial p hp o ho z)
 have h0:o.state≠0:=by
  refine(hP.nd j hj).hd.fin A p (by rw[<-hP.nf hj];exact hp) ?_ o ho;have h3:p.state≠3:=λz=>by rw[hT.s3 z] at ho;cases ho
  have:=hT.st
  omega
 have:=hO.was
 omega
theorem Dp{gs W:List Int}{ct:G3}(h:∀k∈gs,k∈W):ck i gs W ct=[]:=by
 grind [ck,List.filter_eq_nil_iff]
def wa{st Ι E:Int}:∀(os:List hy) (S:Ρ),(∀o∈os,o.state=2)->xs (B8 i A st Ι E) os S=([],os,S)
 | [],_,_=>rfl
 | o::os,S,h=>by
  have e:B8 i A st Ι E o S=([],o,S):=by
   have T:=h o aA;unfold B8 bV;rw[Ν D,Χ D]
  have ih:=wa (st:=st) (Ι:=Ι) (E:=E) os S λy Y=>h y (az _ Y);show((B8 i A st Ι E o S).1++(xs (B8 i A st Ι E) os (B8 i A st Ι E o S).2.2).1,(B8 i A st Ι E o S).2.1::(xs (B8 i A st Ι E) os (B8 i A st Ι E o S).2.2).2.1,(xs (B8 i A st Ι E) os (B8 i A st Ι E o S).2.2).2.2)=_;rw[e];dsimp only;rw[ih];rfl
theorem Jz{E:Int}{N:υ}{S:Ρ}(hb:(N.Φ.map (·.1)).Nodup)(hp:(N.Β.map (·.1)).Nodup)(K:∀A x,ζ N.Φ A=some x->x.dec=true/\∀k∈x.iM,k∈x.told)(T:∀A p,ζ N.Β A=some p->∀o∈p.Z,o.state=2):dv i E N S=([],N,S):=by
 have h3:∀A,Qi i E A N S=([],N,S):=λA=>by
  have adm:Nh i E A N S=([],N,S):=by
   unfold Nh;cases O:ζ N.Φ A with
   | none=>rfl
   | some x =>
    obtain⟨q1,q2⟩:=K A x O
    have e:cD i A x E=([],x):=by
     unfold cD;rw[Χ q1,Dp q2]
    dsimp only;rw[e];dsimp only;rw[iQ O hb];rfl
  have eP:K8 i E A N S=([],N,S):=by
   unfold K8;cases O:ζ N.Β A with
   | none=>rfl
   | some p =>
    dsimp only;split
    .rw[wa p.Z S (T A p O)];dsimp only;rw[iQ O hp]
    .rfl
  grind [Qi]
 unfold dv;generalize ed N=gR;induction gR with
 | nil=>rfl
 | cons a gR ih =>
  grind [bS]
def Oa.round(h:Oa G W)(hW:F8 G c bW ε ac W):iT G W=W:=by
 have U:=hW.len
 have hA:∀k:Nat,(k:Int)<=G->Oj W k=W:=λk=>by
  induction k with
  | zero=>exact λ_=>rfl
  | succ k ih =>
   intro hk;have B:0<=(k:Int)/\(k:Int)<G:=D;have e:Oj W (k+1)=PL (Oj W k) (k:Int):=rfl;rw[e,ih D];have hN:=hW.at B;have en:W.nf k=(W.nd k).1:=EG D
   have e2:dv (k:Int) W.E (W.nd k).1 (W.nd k).2=([],(W.nd k).1,(W.nd k).2):=Jz hN.a.OP.nb hN.a.OP.np (by rw[<-en];exact h.bg k B) λA p hp=>by
    rw[<-en] at hp;exact(h.pt k B A p hp).2
   unfold PL iK.send;rw[e2]
   have e3:W.E7.set (k:Int).toNat ((W.nd k).1,(W.nd k).2)=W.E7:=by
    have e4:W.nd k=W.E7[(k:Int).toNat]'(by omega):=by unfold iK.nd;rw[D7 D]
    show W.E7.set (k:Int).toNat (W.nd k)=W.E7;rw[e4,eC]
   dsimp only;rw[e3,aI]
 have hr:=hW.Nw;have e:iT G W=Ox G (Oj W G.toNat) 400:=rfl;rw[e,hA _ D];generalize (400:Nat)=n;induction n with
 | zero=>rfl
 | succ n ih =>
  have e2:Ox G W (n+1)=NO G (Ox G W n):=rfl;rw[e2,ih];unfold NO;rw[h.Q]
theorem qw(h:D3 G b b0 R g0 A9 iL Oh Oh p W)(hW:F8 G c b ε ac W)(hc:c<=63)(hk:St W)(hR:12*R.length<=400):∀r:Nat,∃p',D3 G b b0 R g0 A9 iL Oh Oh p' (cP G W r)/\St (cP G W r)/\(p'<=12*R.length\/p' + (400 - 12*R.length)*r<=p)/\(cP G W r).E=W.E/\(cP G W r).gR=W.gR/\F8 G c b (ε+7300000000*r) ac (cP G W r)
 | 0=>⟨p,h,hk,.inr D,rfl,rfl,hW⟩
 | r+1=>by
  obtain⟨p',K,T,h3,h4,h5,h6⟩:=qw h hW hc hk hR r;obtain⟨p2,q1,q2,q3,q4,q5⟩:=ye K h6 T (late:=False) λz=>z.elim;obtain⟨g,_,hP,_⟩:=K.ex;have hw:=(nM h6 hc hP.cv hP.hb).2.1;refine⟨p2,q1.weak (λ_ _ z=>z.elim) (λ_ _ z=>z.elim),q2,?_,q4.trans h4,q5.trans h5,hw.mono (an _) (an _) D (an _)⟩;grind
def rY(h:D3 G b b0 R g0 A9 iL Oh Oh p W)(hW:F8 G c b ε ac W)(hc:c<=63)(hk:St W)(hR:12*R.length<=400)(B:A9<W.E):∀r:Nat,∃p',D3 G b b0 R g0 A9 iL Oh Oh p' (cP G W r)/\St (cP G W r)/\(Oa G (cP G W r)\/p' + (400 - 12*R.length)*r<=p)/\(cP G W r).E=W.E/\(cP G W r).gR=W.gR/\F8 G c b (ε+7300000000*r) ac (cP G W r)
 | 0=>⟨p,h,hk,.inr D,rfl,rfl,hW⟩
 | r+1=>by
  obtain⟨p',K,T,h3,h4,h5,h6⟩:=rY h hW hc hk hR B r;have e0:cP G W (r+1)=iT G (cP G W r):=rfl;rw[e0];rcases h3 with h3|h3
  .rw[h3.round h6];exact⟨p',K,T,.inl h3,h4,h5,h6.mono (an _) (an _) D (an _)⟩
  obtain⟨p2,q1,q2,q3,q4,q5⟩:=ye K h6 T (late:=True) D;obtain⟨g,_,hP,_⟩:=K.ex;have hw:=(nM h6 hc hP.cv hP.hb).2.1;refine⟨p2,q1.weak (λ_ _ z=>z.elim) (λ_ _ z=>z.elim),q2,?_,q4.trans h4,q5.trans h5,hw.mono (an _) (an _) D (an _)⟩;have e:(400 - 12*R.length)*(r+1)=(400 - 12*R.length)*r+(400 - 12*R.length):=Nat.mul_succ _ _;rcases q3 with⟨q3,_⟩|q3
  .exact .inl (q1.closed trivial q3)
  .exact .inr D
def Kx:∀fG:Nat,fG<=24->16*fG+8*fG*(24 - fG)+96*fG<3200:=λfG h=>by
 have:∀fG:Nat,fG<25->16*fG+8*fG*(24 - fG)+96*fG<3200:=by decide
 exact this fG D
def F8.time(h:F8 G c bW ε ac W){t:Int}(ht:0<=t/\t<=ac):F8 G c bW ε ac { W with E:=t }:=⟨h.Nw,h.len,h.nd,h.Q,h.ml,ht,h.il⟩
def DB(h:D3 G b b0 R g0 A9 iL Oh Oh p W)(hW:F8 G c b ε ac W)(hc:c<=63)(hk:St W)(hR:R.length<=24)(hp:p<=16*R.length+8*R.length*(24 - R.length)){t:Int}(ht:W.E+10=t)(a7:t<=1099511627776)(B:A9<t)(hT:t<=ac):Oa G (cP G { cP G W 4 with E:=t } 4)/\∃p',D3 G b b0 R g0 A9 iL Oh Oh p' (cP G { cP G W 4 with E:=t } 4)/\(cP G { cP G W 4 with E:=t } 4).gR=W.gR:=by
 obtain⟨p1,M,a2,a3,a4,a5,a6⟩:=qw h hW hc hk D 4;generalize cP G W 4=V at *;have b1:=M.time (t:=t) D a7;have b6:=a6.time (t:=t) ⟨by have:=hW.E.1;omega,hT⟩;obtain⟨p2,c1,c2,c3,c4,c5,c6⟩:=rY b1 b6 hc (λy Y=>a2 y Y) D B 4;refine⟨?_,p2,c1,c5.trans a5⟩;rcases c3 with c3|c3
 .exact c3
 .have q:=Kx R.length hR;omega
end
end
section
open Go.V
def ej(nd:Nk)(A:Int):Bool:=match ζ (nd (bZ A)).Φ A with
 | some x=>x.dec && x.F7
 | none=>false
theorem PM.F7{nd:Nk}{A:Int}{t:Bool}(h:PM nd A t):ej nd A=t:=by
 obtain⟨x,K,T,h3⟩:=h;grind [ej]
def Va(i a x:Int)(l:lu):Int:=if l.d=i then(if a=l.fr then - NS x l.am else 0)+(if l.ts=i/\a=l.to then NS x l.am else 0) else 0
def VD(i a x:Int)(l:lu):Int:=if(l.d≠i/\l.ts=i)/\a=l.to then NS x l.am else 0
def VE(i a x:Int)(l:lu):Int:=(if l.d=i/\a=l.fr then - NS x l.am else 0)+(if l.ts=i/\a=l.to then NS x l.am else 0)
theorem KT(i a x:Int)(l:lu):VE i a x l=Va i a x l+VD i a x l:=by
 grind [VE,Va,VD]
def VF(i a x:Int)(ls:List lu):Int:=(ls.map (VE i a x)).sum
def tb{α:Type}{f g:α->Int}:∀l:List α,(l.map λk=>f k+g k).sum=(l.map f).sum+(l.map g).sum
 | []=>rfl
 | a::l=>by
  have:=tb (f:=f) (g:=g) l
  simp only[aq,aS];omega
theorem jS{α:Type}{f:α->Int}:∀{l:List α},(∀k∈l,f k=0)->(l.map f).sum=0
 | [],_=>rfl
 | a::l,h=>by
  rw[aq,aS,h a aA,jS λk hk=>h k (az _ hk)];rfl
theorem ta{α:Type}[DecidableEq α]{f:α->Int}:∀{l u:List α},l.Nodup->u.Nodup->(∀k∈l,k∈u)->(l.map f).sum=(u.map λk=>if k∈l then f k else 0).sum
 | [],u,_,_,_=>by
  grind [jS]
 | a::l,u,U,hu,hs=>by
  obtain⟨K,T⟩:=List.nodup_cons.1 U;have hp:=List.perm_cons_erase (hs a aA);have B:=(hp.nodup_iff).1 hu;obtain⟨q1,q2⟩:=List.nodup_cons.1 B;have ih:=ta (f:=f) T q2 aj;rw[nX hp,aq,aS,aq,aS,Χ aA,ih];grind [aV]
theorem uA{α:Type}[Inhabited α]{f:α->Int}(l:List α):(l.map f).sum=((List.range l.length).map λj=>f l[j]!).sum:=by
 grind [eX,al]
def ww{α β:Type}{f:β->Int}{g:α->List β}:∀l:List α,((l.flatMap g).map f).sum=(l.map λk=>((g k).map f).sum).sum
 | []=>rfl
 | a::l=>by
  rw[aT,aQ,dG,ww l,aq,aS]
theorem wj(i:Int):∀(ls:List lu) (k:Int) (f:lu->Int),((B3 i k ls).map λo=>f o.Υ).sum=(ls.map λl=>if l.d=i then f l else 0).sum
 | [],_,_=>rfl
 | l::ls,k,f=>by
  have ih:=wj i ls (k+1) f;grind [B3]
theorem yP(i:Int):∀(ls:List lu) (k:Int) (j:Nat),j<ls.length->ls[j]!.d=i->(⟨ls[j]!,k+j,0,[]⟩:hy)∈B3 i k ls
 | [],_,j,h,_=>aj
 | l::ls,k,0,_,h=>by
  grind [B3]
 | l::ls,k,j+1,hj,h=>by
  have e1:B3 i k (l::ls)=if l.d=i then⟨l,k,0,[]⟩::B3 i (k+1) ls else B3 i (k+1) ls:=rfl;rw[aK] at hj
  have e2:(l::ls)[j+1]! = ls[j]!:=by
   rw[D7 D,D7 D,List.getElem_cons_succ]
  rw[e2] at h ⊢;have ih:=yP i ls (k+1) j D h;grind
section
variable {G:Int}{b:Nat}{b0:Int->Int->Int->Int}{R:List Int}{g:Gh}{W:iK}{i A:Int}{p:NF}
theorem Oa.part(hC:Oa G W)(hP:O0 G b b0 g R W)(hi:0<=i/\i<G)(hp:ζ (W.nf i).Β A=some p):(p.state=1/\ej W.nf A=true)\/(p.state=2/\ej W.nf A=false)\/(p.state=3/\ej W.nf A=false):=by
 have hT:=hP.ag.pt i hi A p hp;obtain⟨h0,_⟩:=hC.pt i hi A p hp;have M:=hT.st;by_cases K:p.state=1
 .exact .inl ⟨K,(hT.s1 K).F7⟩
 by_cases T:p.state=2
 .exact .inr (.inl ⟨T,(hT.s2 T).F7⟩)
 have h3:p.state=3:=D;refine .inr (.inr ⟨h3,?_⟩);obtain⟨ls,r1,r2,_⟩:=hT.G5;obtain⟨hc,x,O,B⟩:=hP.ag.rg A ls r1;obtain⟨_,hE⟩:=hP.ag.bg _ hc A x O;have hd:=(hC.bg _ hc A x O).1;cases ht:x.F7 with
 | false=>exact PM.F7 ⟨x,O,hd,ht⟩
 | true =>
  obtain⟨p2,z1,z2⟩:=hE.tk hd ht i (by rw[hE.O9,B];exact r2);grind
theorem Oa.has(hC:Oa G W)(hP:O0 G b b0 g R W)(ht:ej W.nf A=true){ls:List lu}(hG:g.Α A=some ls){l:lu}(U:l∈ls):∃p,ζ (W.nf l.d).Β A=some p/\p.state=1:=by
 obtain⟨hc,x,O,B⟩:=hP.ag.rg A ls hG;obtain⟨_,hE⟩:=hP.ag.bg _ hc A x O;have hs:=((hP.gr A ls hG).2 l U).d;unfold ej at ht;rw[O] at ht;have ht:(x.dec && x.F7)=true:=ht;rw[iY] at ht;obtain⟨p,z1,z2⟩:=hE.tk ht.1 ht.2 l.d (by rw[hE.O9,B];grind [Vs]);refine⟨p,z1,?_⟩;rcases hC.part hP hs z1 with⟨q,_⟩|⟨_,q⟩|⟨q,_⟩
 .exact q
 .grind [ej]
 omega
def Gz{os B : List hy}(h:Rp os=Rp B)(f:lu->Int):(os.map λo=>f o.Υ).sum=(B.map λo=>f o.Υ).sum:=by
 have e:∀l:List hy,(l.map λo=>f o.Υ)=(Rp l).map λq=>f q.1:=λl=>by
  unfold Rp;rw[co];rfl
 rw[e,e,h]
theorem Oa.Pz(hC:Oa G W)(hP:O0 G b b0 g R W)(a5:R.Nodup)(hi:0<=i/\i<G)(a x:Int):Pz g i (W.nf i) a x=(R.map λA=>if ej W.nf A=true then VF i a x (cU g A) else 0).sum:=by
 have en:=hP.nf hi;have hK:=hP.nd i hi;have hN:=hP.cv.cv.nd i hi;rw[<-en] at hK hN;have M:∀{A ls},g.Α A=some ls->cU g A=ls:=by grind [cU]
 have a3:((W.nf i).Β.map (dP i a x)).sum=(R.map λA=>if ej W.nf A=true then((cU g A).map (Va i a x)).sum else 0).sum:=by
  have e1:((W.nf i).Β.map (dP i a x)).sum=(((W.nf i).Β.map (·.1)).map λA=>if ej W.nf A=true then((cU g A).map (Va i a x)).sum else 0).sum:=by
   rw[co];refine congrArg List.sum (aV λq hq=>?_);have hp:ζ (W.nf i).Β q.1=some q.2:=fj hK.np hq;obtain⟨b3,b1⟩:=hC.pt i hi _ _ hp;have hT:=hP.ag.pt i hi _ _ hp;obtain⟨ls,r1,_,r3⟩:=hT.G5;have hz:gw x q.2.Z=0:=by grind [pP]
   show jn i q.2.state a x q.2.Z+(if a=q.2.Ι then gw x q.2.Z else 0)=if ej W.nf q.1=true then((cU g q.1).map (Va i a x)).sum else 0;rw[hz,ite_self,dC,M r1];rcases hC.part hP hi hp with⟨K,ht⟩|⟨K,ht⟩|⟨K,ht⟩
   .rw[ht,Χ rfl,K]
    have e2:jn i 1 a x q.2.Z=(q.2.Z.map λo=>(if a=o.Υ.fr then - NS x o.Υ.am else 0)+(if o.Υ.ts=i/\a=o.Υ.to then NS x o.Υ.am else 0)).sum:=by
     unfold jn;refine congrArg List.sum (aV λo ho=>?_);unfold Rb;rw[b1 o ho];congr 1
     .omega
     .omega
    exact e2.trans ((Gz (r3 D) λl=>(if a=l.fr then - NS x l.am else 0)+(if l.ts=i/\a=l.to then NS x l.am else 0)).trans (wj i ls 0 λl=>(if a=l.fr then - NS x l.am else 0)+(if l.ts=i/\a=l.to then NS x l.am else 0)))
   .grind [jn,jS,Rb]
   .rw[ht,Ν ae,hT.s3 K];rfl
  rw[e1,ta hK.np a5 λA B=>by
   obtain⟨q,hq,rfl⟩:=H9 B;obtain⟨ls,r1,_⟩:=(hP.ag.pt i hi _ _ (fj hK.np hq)).G5;exact hP.cv.hR _ _ r1]
  refine congrArg List.sum (aV λA B=>?_);by_cases hk:A∈(W.nf i).Β.map (·.1)
  .rw[Χ hk]
  .rw[Ν hk];by_cases ht:ej W.nf A=true
   .rw[Χ ht];obtain⟨ls,hG⟩:=hP.cv.Rn A B;rw[M hG];refine(jS λl U=>?_).symm;unfold Va;refine Ν λz=>?_;obtain⟨p,hp,_⟩:=hC.has hP ht hG U;rw[z] at hp;exact hk (List.mem_map.2 ⟨_,bQ hp,rfl⟩)
   grind
 have a4:((W.nf i).sh.map (dR g a x)).sum=(R.map λA=>if ej W.nf A=true then((cU g A).map (VD i a x)).sum else 0).sum:=by
  have b2:(R.flatMap λA=>(List.range (cU g A).length).map λj:Nat=>(A,(j:Int))).Nodup:=by
   unfold List.Nodup;rw[List.pairwise_flatMap];refine⟨λA _=>?_,?_⟩
   .grind [List.nodup_range]
   .exact a5.imp aj
  rw[ta hN.ls.nd b2 λk hk=>by
   obtain⟨l,q1,_⟩:=hP.ag.rv i hi k hk;obtain⟨ls,r1,r2,_,_⟩:=zm q1;refine List.mem_flatMap.2 ⟨k.1,hP.cv.hR _ _ r1,List.mem_map.2 ⟨k.2.toNat,List.mem_range.2 (by rw[M r1];exact r2.2),?_⟩⟩;exact Prod.ext rfl (by show((k.2.toNat:Nat):Int)=k.2;omega),ww]
  refine congrArg List.sum (aV λA B=>?_);obtain⟨ls,hG⟩:=hP.cv.Rn A B;rw[M hG,co];have a2:∀j:Nat,j<ls.length->g.Υ (A,(j:Int))=some ls[j]!:=by grind [Gh.Υ]
  have hin:∀j:Nat,j<ls.length->((A,(j:Int))∈(W.nf i).sh↔ej W.nf A=true/\ls[j]!.d≠i/\ls[j]!.ts=i):=λj hj=>by
   constructor
   .intro hk;obtain⟨l,q1,q2,q3,p,q4,q5⟩:=hP.ag.rv i hi _ hk;rw[a2 j hj] at q1;rw[Pr q1];have a6:=(hP.gr A ls hG).2 _ (bA hj);rw[Pr q1] at a6;refine⟨?_,q3,q2⟩;rcases hC.part hP a6.d q4 with⟨_,z⟩|⟨z,_⟩|⟨z,_⟩
    .exact z
    .omega
    omega
   .rintro⟨ht,K,T⟩;obtain⟨p,hp,a9⟩:=hC.has hP ht hG (bA hj);have a7:=((hP.gr A ls hG).2 _ (bA hj)).d;have hT:=hP.ag.pt _ a7 _ _ hp;obtain⟨b4,r1,_,r3⟩:=hT.G5;rw[hG] at r1;have e:=r3 D;rw[<-Pr r1] at e
    have hm:(ls[j]!,(j:Int))∈Rp p.Z:=by
     rw[e];refine List.mem_map.2 ⟨_,yP _ ls 0 j hj rfl,?_⟩;exact Prod.ext rfl aj
    obtain⟨o,ho,e2⟩:=H9 hm;have e3:=(Prod.mk.inj e2).1;have e4:=(Prod.mk.inj e2).2;have hs:=(hC.pt _ a7 _ _ hp).2 o ho;have q:=(hT.ow o ho).s2 a9 hs aj;grind
  by_cases ht:ej W.nf A=true
  .rw[Χ ht,uA (f:=VD i a x) ls];grind [aV,dR,VD]
  .grind [jS]
 unfold Go.Proofs.YtlgpgjdggilkgaaGreatDoor.Pz;rw[a3,a4,<-tb];refine congrArg List.sum (aV λA _=>?_);by_cases ht:ej W.nf A=true
 .rw[Χ ht,Χ ht,Χ ht,<-tb];exact congrArg List.sum (aV λl _=>(KT i a x l).symm)
 grind
theorem Oa.home(hC:Oa G W)(hP:O0 G b b0 g R W)(B:A∈R):(0<=bZ A/\bZ A<G)/\fU (W.nf (bZ A)) A=if ej W.nf A=true then 2 else 3:=by
 obtain⟨ls,hG⟩:=hP.cv.Rn A B;obtain⟨hc,x,O,_⟩:=hP.ag.rg A ls hG;refine⟨hc,?_⟩;have hd:=(hC.bg _ hc A x O).1;grind [ej,fU]
theorem Oa.agree(hC:Oa G W)(hP:O0 G b b0 g R W)(B:A∈R){k:Int}(hk:0<=k/\k<G):fU (W.nf k) A=0\/fU (W.nf k) A=if ej W.nf A=true then 2 else 3:=by
 cases O:ζ (W.nf k).Φ A with
 | some x =>
  have a2:=(hP.ag.bg k hk A x O).1;have:=(hC.home hP B).2
  grind
 | none =>
  cases hp:ζ (W.nf k).Β A with
  | some p =>
   refine .inr ?_;have h0:=(hC.pt k hk A p hp).1;unfold fU;rw[O,hp];dsimp only;rw[Ν h0];rcases hC.part hP hk hp with⟨q1,q2⟩|⟨q1,q2⟩|⟨q1,q2⟩
   .grind
   .grind
   grind
  | none =>
   unfold fU;rw[O,hp];dsimp only;by_cases hr:A∈(W.nf k).sh.map (·.1)
   .rw[Χ hr];obtain⟨q,hq,rfl⟩:=H9 hr;obtain⟨l,q1,_,_,p,q4,q5⟩:=hP.ag.rv k hk q hq;have q5:p.state=1:=q5;have M:=(hP.gr.Υ q1).d;rcases hC.part hP M q4 with⟨_,z⟩|⟨z,_⟩|⟨z,_⟩
    .grind
    .omega
    .omega
   grind
theorem Oa.opens(hC:Oa G W)(hP:O0 G b b0 g R W){k:Int}(hk:0<=k/\k<G):lh (W.nf k)=[]:=by
 unfold lh;refine List.filter_eq_nil_iff.2 λA _=>?_
 have K:∀x,ζ (W.nf k).Φ A=some x->(!x.dec || dB (x.told.length<x.iM.length))=false:=λx O=>by
  obtain⟨q1,q2⟩:=hC.bg k hk A x O;have hE:=(hP.ag.bg k hk A x O).2;have U:=jo (l:=x.iM) (m:=x.told) (by rw[hE.O9];exact ju _ _) q2;rw[q1,bB D];rfl
 have T:∀p,ζ (W.nf k).Β A=some p->(dB (p.state=0) || dB (∃o∈p.Z,¬o.state=2))=false:=λp hp=>by
  obtain⟨q1,q2⟩:=hC.pt k hk A p hp;grind [bB]
 grind [gd]
end
end
section
open Go.V
def P9(a x:Int)(hs:List Hd):Int:=(hs.map λh=>if h.1=a/\h.2.1=x then h.2.2 else 0).sum
def nI(a x:Int)(hs:List Hd)(h:Hd):P9 a x (hs++[h])=P9 a x hs+if h.1=a/\h.2.1=x then h.2.2 else 0:=by
 unfold P9;rw[aQ,dG,List.map_singleton,List.sum_singleton]
def FJ{a x:Int}{hs:List Hd}(h:∀z∈hs,¬(z.1=a/\z.2.1=x)):P9 a x hs=0:=jS λz hz=>Ν (h z hz)
def sI{a x:Int}:∀{hs:List Hd},hs.Pairwise SX->(P9 a x hs=0/\∀z∈hs,¬(z.1=a/\z.2.1=x))\/∃z∈hs,(z.1=a/\z.2.1=x)/\P9 a x hs=z.2.2
 | [],_=>.inl ⟨rfl,λz hz=>hD hz aG⟩
 | h::hs,hp=>by
  obtain⟨p1,p2⟩:=List.pairwise_cons.1 hp;have e:P9 a x (h::hs)=(if h.1=a/\h.2.1=x then h.2.2 else 0)+P9 a x hs:=by unfold P9;rw[aq,aS]
  by_cases q:h.1=a/\h.2.1=x
  .refine .inr ⟨h,aA,q,?_⟩;rw[e,Χ q,FJ λz hz y=>?_]
   .omega
   .have:=p1 z hz
    unfold SX at this;omega
  .rw[e,Ν q,Int.zero_add];rcases sI (a:=a) (x:=x) p2 with⟨r1,r2⟩|⟨z,hz,r1,r2⟩
   .refine .inl ⟨r1,λz hz=>?_⟩;rcases Nj hz with rfl|hz
    .exact q
    .exact r2 z hz
   .exact .inr ⟨z,az _ hz,r1,r2⟩
def TT.sub{f:Int->Int->Int}{hs:List Hd}(h:TT f hs)(a x:Int):P9 a x hs=f a x:=by
 rcases sI (a:=a) (x:=x) h.XE with⟨r1,r2⟩|⟨z,hz,⟨q1,q2⟩,r2⟩
 .rw[r1];refine Classical.byContradiction λq=>?_;exact r2 (a,x,f a x) ((h.mem _).2 ⟨rfl,λe=>q e.symm⟩) ⟨rfl,rfl⟩
 .rw[r2,((h.mem z).1 hz).1,q1,q2]
def TT.part{f:Int->Int->Int}{hs:List Hd}(h:TT f hs)(a x:Int)(j:Nat):P9 a x (hs.take j)=0\/P9 a x (hs.take j)=f a x:=by
 rcases sI (a:=a) (x:=x) (h.XE.sublist (List.take_sublist j hs)) with⟨r1,_⟩|⟨z,hz,⟨q1,q2⟩,r2⟩
 .exact .inl r1
 .exact .inr (by rw[r2,((h.mem z).1 (cp hz)).1,q1,q2])
abbrev UA:Nat:=56
structure Sc where
 ad:OA
 cap:Nat
 hs:List Hd
 deriving Inhabited
def fh(z:Sc):τ:=[ah z.ad z.hs.length z.cap]
def Hl(z:Sc):∀u∈fh z,u.oneCell' = true:=by simp[fh,Value.oneCell']
abbrev NV(z:Sc):HP:=ξ kb 3 z.ad z.hs
def Mf{k:Nat}{S:Ρ}(h:Sk k S)(hk:k<=4096)(x:OB):(S.V1 x).Ok:=⟨h.D8,h.D9,h.Κ,λa i=>⟨aO (h.ν a i).len hk,(h.ν a i).C8⟩,h.id⟩
attribute [local irreducible] Α GO GP δ ms GF GE Ev Ef C0 F CB GB V.Enters bJ L9
def zy{L:Η}(b:Nat)(S:Ρ)(k:Nat)(hG:Sk k S)(hk:k<=4096)(hS:rS S.ν S.Κ)(B:S.Κ.length<=100000) :
  Τ Θ 21 #[av b] (aU b S::L) (λv Γ=>∃ad cap hs,v=ah ad hs.length cap/\(TT (Vo S) hs/\hs.length<=4194304)/\Γ = Ω kb 3 VW ad cap hs::aU b S::L):=by
 refine Τ.d9 (g:=jY b S) Xs.1 ?_;intro x;show Τ _ _ _ (ee (Uq S x)::E1 b S.D8 x L) _;refine Τ.d8 Xs.1 ?_;intro hF;have q:=EU (L:=cS gm Q2 x.mt x.id::PR eK 7 ji x.K0 x.Qq x.D9::PR ft 11 gX x.C3 x.F1 x.Κ::cS gm h1.v x.mi x.imp::cS gm h1.v x.mr x.ret::Oz x.π::Ψ iu x.D9::Ψ Pm x.Κ::Ψ (λp:Int×h1=>G8 p.2) x.imp::Ψ (λp:Int×h1=>G8 p.2) x.ret::L) b (S.V1 x) x hF.Zw (Mf hG hk x) hS B;rw[show(S.V1 x).D8=S.D8 from rfl] at q;refine(q.pre (by simp only[E1];exact ak)).Rs ?_;rintro _ _⟨ad,cap,hs,K,T,rfl⟩;refine⟨_,⟨ad,cap,hs,K,T,rfl⟩,?_⟩;refine F.trans ?_ (F.c7 (jf x hF));simp only[E1];exact ak
def Cb{L:Η}(wb:Nat)(G:Int)(W:G1)(U:(W.aa.length:Int)=G)(i:Int)(hi:0<=i/\i<G)(a x:Int)(B:OA)(M:Nat)(zs:List Sc)(hz:zs.length=W.aa.length)(k:Nat)(hG:Sk k W.aa[i.toNat]!.S)(hk:k<=4096)(hb:0<=aY (W.aa[i.toNat]!.S.ν a x)/\aY (W.aa[i.toNat]!.S.ν a x)<=1099511627776)(hs:∀j,0<=P9 a x (zs[i.toNat]!.hs.take j)/\P9 a x (zs[i.toNat]!.hs.take j)<=1099511627776)(b8:zs[i.toNat]!.hs.length<=4194304) :
  Τ Θ 25 #[av wb,ah B zs.length M,J i,J a,J x] (ξ fh 1 B zs::Ψ NV zs::B9 wb G W L) (F3 (J (aY (W.aa[i.toNat]!.S.ν a x) - P9 a x zs[i.toNat]!.hs)) (ξ fh 1 B zs::Ψ NV zs::B9 wb G W L)):=by
 obtain⟨s,a3⟩:∃s,W.aa[i.toNat]! = s:=⟨_,rfl⟩;have a5:i.toNat<W.aa.length:=D;have b2:zs[i.toNat]!∈zs:=bA D;rw[a3] at hG hb ⊢;have b6:(W.aa.map (·.lb)).length=W.aa.length:=al _
 have b1:(W.aa.map (·.lb))[i.toNat]! = s.lb:=by
  rw[<-a3];exact eJ (f:=λs:K2=>s.lb) a5
 have b3:i<(W.aa.length:Int):=D;have b4:i<(zs.length:Int):=D;have a2:∀ε:Η,F (eu s.nb s.lb s.d G s.n (aU s.lb s.S::ey (K5 G) (W.aa.eraseIdx i.toNat)::ε)) (ey (K5 G) W.aa::ε):=λε=>FO a5 a3;refine Τ.bd ?_;simp only[B9,K3];refine Nd ?_;intros;rw[b1];refine GO.cL (F.at (Ο:=ey (K5 G) W.aa) (nL a5 a3)) ?_;simp only[eu,gL];refine GO.cL (F.at (Ο:=aU s.lb s.S) (F.refl _)) ?_;refine GO.cr (mQ s.lb s.S k hG hk a x) ?_;refine Nd ?_;intros;refine Α.loop (α:=Nat) (λj=>j<=zs[i.toNat]!.hs.length) (λj=>[(0,av wb),(1,ah B zs.length M),(2,J i),(3,J a),(4,J x),(11,J (aY (s.S.ν a x) - P9 a x (zs[i.toNat]!.hs.take j))),(12,J (j:Int))]) (λj=>NV zs[i.toNat]!::ξ fh 1 B zs::Ψ NV zs::B9 wb G W L) (λj=>zs[i.toNat]!.hs.length - j) 0 (aC _) ?_ ?_ ?_
 .rw[bj,show P9 a x []=0 from rfl,Int.sub_zero];exact aD
 .refine F.trans (fG:=eu s.nb s.lb s.d G s.n (aU s.lb s.S::ey (K5 G) (W.aa.eraseIdx i.toNat)::(ξ fh 1 B zs::Ψ NV zs::obj wb PK [ah W.bG W.aa.length W.hx,ah W.I3 W.aa.length W.No,ah W.fH W.B4.length W.iI,J W.E,ah W.I2 W.gR.length W.J4]::ξ dl 1 W.bG (W.aa.map (·.lb))::ξ dl 1 W.I3 (W.aa.map (·.nb))::OS bq 3 B1 W.fH W.iI W.B4::Ψ gM W.B4::Ω (dJ .i64) 1 B7 W.I2 W.J4 W.gR::L))) (by simp only[eu,gL];exact ak) ?_;refine(a2 _).trans ?_;refine(F.at (Ο:=Ψ NV zs) (F.d8 (f:=NV) b2)).trans ?_;simp only[B9,K3];exact ak
 rintro j hj;have b0:(j:Int).toNat=j:=D;by_cases a6:j<zs[i.toNat]!.hs.length
 case neg =>
  have a9:zs[i.toNat]!.hs.take j=zs[i.toNat]!.hs:=aM D;rw[a9];refine Nd ?_;intros;exact KX.en ⟨rfl,rfl⟩
 have a4:zs[i.toNat]!.hs.take (j+1)=zs[i.toNat]!.hs.take j++[zs[i.toNat]!.hs[(j:Int).toNat]!]:=by rw[b0,aB a6,D7 a6]
 have b7:=hs j;have a7:=hs (j+1);rw[a4,nI] at a7;have b5:(j:Int)<(zs[i.toNat]!.hs.length:Int):=D;by_cases K:zs[i.toNat]!.hs[(j:Int).toNat]!.1=a
 case neg =>
  refine Nd ?_;intros;refine⟨j+1,D,D,?_,by exact ak⟩;rw[a4,nI,Ν λq=>K q.1,dC,bC j];exact aD
 by_cases T:zs[i.toNat]!.hs[(j:Int).toNat]!.2.1=x
 case neg =>
  refine Nd ?_;intros;refine⟨j+1,D,D,?_,by exact ak⟩;rw[a4,nI,Ν λq=>T q.2,dC,bC j];exact aD
 rw[Χ ⟨K,T⟩] at a7;refine Nd ?_;intros;refine⟨j+1,D,D,?_,by exact ak⟩;rw[a4,nI,Χ ⟨K,T⟩,bC j,<-Int.sub_sub];exact aD
end
section
open Go.V
def Rr(r x:Int)(l:lu)(am:List (Int×Int)):Int:=(if r=20*l.d+l.fr then - NS x am else 0)+(if r=20*l.ts+l.to then NS x am else 0)
def Qa(r x:Int)(ls:List lu):Int:=(ls.map λl=>Rr r x l l.am).sum
def PA(r x:Int)(l:List (List lu×Bool)):Int:=(l.map λq=>if q.2=true then Qa r x q.1 else 0).sum
theorem zd(r x:Int)(l:List (List lu×Bool))(q:List lu×Bool):PA r x (l++[q])=PA r x l+if q.2=true then Qa r x q.1 else 0:=by
 grind [PA]
theorem IN(r x:Int)(ls:List lu)(l:lu):Qa r x (ls++[l])=Qa r x ls+Rr r x l l.am:=by
 grind [Qa]
theorem Jw(x:Int)(am:List (Int×Int))(a:Int×Int):NS x (am++[a])=NS x am+if x=a.1 then a.2 else 0:=by
 grind [NS]
theorem HI{x:Int}:∀{am:List (Int×Int)},(∀p∈am,0<=p.2/\p.2<=12)->0<=NS x am/\NS x am<=12*(am.length:Int)
 | [],_=>⟨bE 0,bE 0⟩
 | p::am,h=>by
  have ih:=HI (x:=x) λq hq=>h q (az _ hq);grind [NS]
structure Su (n:Int) (l:lu):Prop where
 d:0<=l.d/\l.d<n
 ts:0<=l.ts/\l.ts<n
 fr:0<l.fr/\l.fr<20
 to:0<l.to/\l.to<20
 len:l.am.length<=3
 am:∀p∈l.am,(0<=p.1/\p.1<4)/\1<=p.2/\p.2<=12
def Su.of{n:Int}{l:lu}(h:RJ n l)(k:Ur n l):Su n l:=by
 have K:=h.h.fr;have T:=h.h.to;have h3:=k.fr;have h4:=k.to;exact⟨h.d,h.ts,D,D,h.len,λp hp=>⟨(h.h.am.2 p hp).1,(h.h.am.2 p hp).2.1,h.am p hp⟩⟩
theorem CH{n r x:Int}{l:lu}(h:Su n l)(j:Nat) : -36<=Rr r x l (l.am.take j)/\Rr r x l (l.am.take j)<=36:=by
 have q:=HI (x:=x) (am:=l.am.take j) λp hp=>by
  have:=(h.am p aj).2
  omega
 have h3:=h.len;grind [Rr]
def zi{n r x:Int}:∀{ls:List lu},(∀l∈ls,Su n l)->-(36*(ls.length:Int))<=Qa r x ls/\Qa r x ls<=36*(ls.length:Int)
 | [],_=>⟨bE 0,bE 0⟩
 | l::ls,h=>by
  have ih:=zi (r:=r) (x:=x) λy Y=>h y (az _ Y);have h0:=CH (r:=r) (x:=x) (h l aA) l.am.length;rw[cz] at h0;have e:Qa r x (l::ls)=Rr r x l l.am+Qa r x ls:=by unfold Qa;rw[aq,aS]
  rw[e,aK];omega
theorem Gv{n r x:Int}:∀{l:List (List lu×Bool)},(∀q∈l,q.1.length<=4/\∀y∈q.1,Su n y)->-(144*(l.length:Int))<=PA r x l/\PA r x l<=144*(l.length:Int)
 | [],_=>⟨bE 0,bE 0⟩
 | q::l,h=>by
  have ih:=Gv (r:=r) (x:=x) λy Y=>h y (az _ Y);obtain⟨K,T⟩:=h q aj;have h0:=zi (r:=r) (x:=x) T;grind [PA]
theorem KS{n i a x:Int}{l:lu}(h:Su n l)(ha:0<=a/\a<20):Rr (20*i+a) x l l.am=VE i a x l:=by
 have K:=h.fr;have T:=h.to;grind [Rr,VE]
def Mc{n i a x:Int}{ls:List lu}(h:∀l∈ls,Su n l)(ha:0<=a/\a<20):Qa (20*i+a) x ls=VF i a x ls:=congrArg List.sum (aV λl U=>KS (h l U) ha)
def OG(ε:Int->Int->Int)(r:Int):List Int:=[ε r 0,ε r 1,ε r 2,ε r 3]
def oL{ε:Int->Int->Int}{r x:Int}(h:0<=x/\x<4):(OG ε r)[x.toNat]! = ε r x:=by
 rcases (D:x=0\/x=1\/x=2\/x=3) with rfl|rfl|rfl|rfl<;>rfl
def TG(ε:Int->Int->Int)(r x v:Int):Int->Int->Int:=λr' x'=>ε r' x' + if r' = r/\x' = x then v else 0
def Im{ε:Int->Int->Int}{r x v:Int}(h:0<=x/\x<4):(OG ε r).set x.toNat (ε r x+v)=OG (TG ε r x v) r:=by
 rcases (D:x=0\/x=1\/x=2\/x=3) with rfl|rfl|rfl|rfl<;>simp[OG,TG]
def Kv{ε:Int->Int->Int}{r x v r' : Int}(h:r'≠r):OG (TG ε r x v) r' = OG ε r':=by
 simp[OG,TG,h]
structure Ql (bs:List Nat) (ε:Int->Int->Int) (rows:List (Nat×List Int)):Prop where
 bk:rows.map (·.1)=bs
 at_:∀k:Nat,k<bs.length->rows[k]!.2=OG ε k
def Ql.len{bs:List Nat}{ε:Int->Int->Int}{B:List (Nat×List Int)}(h:Ql bs ε B):B.length=bs.length:=by rw[<-h.bk,al]
theorem Ql.blk{bs:List Nat}{ε:Int->Int->Int}{B:List (Nat×List Int)}(h:Ql bs ε B){k:Nat}(hk:k<bs.length):B[k]!.1=bs[k]!:=by
 have U:=h.len;rw[<-h.bk];grind
theorem Ql.Pu{bs:List Nat}{ε:Int->Int->Int}{B:List (Nat×List Int)}(h:Ql bs ε B){k:Nat}(hk:k<bs.length){x v:Int}(O:0<=x/\x<4):Ql bs (TG ε k x v) (B.set k (bs[k]!,(OG ε k).set x.toNat (ε k x+v))):=by
 have U:=h.len;refine⟨?_,λj hj=>?_⟩
 .rw[List.map_set,h.bk];grind [eC]
 .rw[D7 aj,List.getElem_set];by_cases e:k=j
  .rw[Χ e,Im O,e]
  .rw[Ν e,Kv D,<-h.at_ j hj,D7 (D:j<B.length)]
def Ql.UC{bs:List Nat}{ε M' : Int->Int->Int}{B:List (Nat×List Int)}(h:Ql bs ε B)(e:∀r x,M' r x=ε r x):Ql bs M' B:=⟨h.bk,λk hk=>by rw[h.at_ k hk];unfold OG;rw[e,e,e,e]⟩
def Ql.zero(bs:List Nat):Ql bs (λ_ _=>0) (bs.map λb=>(b,[0,0,0,0])):=⟨by rw[co];exact List.map_id' bs,λk hk=>by rw[eJ hk];rfl⟩
def GC{r x:Int}{l:lu}{am:List (Int×Int)}{a:Int×Int}:Rr r x l (am++[a])=Rr r x l am+(if r=20*l.d+l.fr/\x=a.1 then - a.2 else 0)+(if r=20*l.ts+l.to/\x=a.1 then a.2 else 0):=by
 unfold Rr;rw[Jw];by_cases K:r=20*l.d+l.fr
 .omega
 omega
abbrev Rc:Nat:=22
def iy(b:Nat):τ:=[ah (some ⟨b,0,none⟩) 4 4]
def Hi(b:Nat):∀u∈iy b,u.oneCell' = true:=by simp[iy,Value.oneCell']
def O1(q:Nat×List Int):HP:=Ω (dJ .i64) 1 B7 (some ⟨q.1,0,none⟩) 4 q.2
def yd{bs:List Nat}{ε:Int->Int->Int}{B:List (Nat×List Int)}(h:Ql bs ε B){k:Nat}(hk:k<bs.length){L:Η}:F (ey O1 B::L) (Ω (dJ .i64) 1 B7 (some ⟨bs[k]!,0,none⟩) 4 (OG ε k)::ey O1 (B.eraseIdx k)::L):=by
 have U:=h.len;rw[<-h.blk hk,<-h.at_ k hk];exact(F.g9 (pX D)).trans F.Vf
theorem JM{bs:List Nat}{ε:Int->Int->Int}{B:List (Nat×List Int)}(h:Ql bs ε B){k:Nat}(hk:k<bs.length)(r:List Int){L:Η}:F (Ω (dJ .i64) 1 B7 (some ⟨bs[k]!,0,none⟩) 4 r::ey O1 (B.eraseIdx k)::L) (ey O1 (B.set k (bs[k]!,r))::L):=by
 have U:=h.len;grind [F.trans,F.UI,O1,F.g9,xX]
abbrev Sv:Nat:=32
def jr(o:Pf):τ:=[ah o.bG o.Z.length o.hx]
def Hm(o:Pf):∀u∈jr o,u.oneCell' = true:=by simp[jr,Value.oneCell']
def ud{p nb i:Nat}(hn:nb<=i)(h:p<=16*nb+8*nb*(i - nb)):p+8*nb<=16*nb+8*nb*(i+1 - nb):=by
 rw[show i+1 - nb=(i - nb)+1 by omega,Nat.mul_add];omega
