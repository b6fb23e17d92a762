/- Lemmas. -/
import Derived.Test.YtlgpgjdggilkgaaGreatDoorEdbg
set_option linter.all false
set_option maxHeartbeats 16000000
namespace Go.Proofs.YtlgpgjdggilkgaaGreatDoor
section
open Go.V
def B0(f:hD->Τ->List fK×hD×Τ):List hD->Τ->List fK×List hD×Τ
 | [],S=>([],[],S)
 | o::os,S=>((f o S).1++(B0 f os (f o S).2.2).1,(f o S).2.1::(B0 f os (f o S).2.2).2.1,(B0 f os (f o S).2.2).2.2)
theorem wh(f:hD->Τ->List fK×hD×Τ)(o:hD):∀(os:List hD) (S:Τ),B0 f (os++[o]) S=((B0 f os S).1++(f o (B0 f os S).2.2).1,(B0 f os S).2.1++[(f o (B0 f os S).2.2).2.1],(f o (B0 f os S).2.2).2.2)
 | [],S=>by grind [B0]
 | p::os,S=>by
  rw[aq];simp only[B0];rw[wh f o os];simp only[aF,aq]
theorem qz(f:hD->Τ->List fK×hD×Τ)(os:List hD)(S:Τ){i:Nat}(h:i<os.length):B0 f (os.take (i+1)) S=((B0 f (os.take i) S).1++(f os[i]! (B0 f (os.take i) S).2.2).1,(B0 f (os.take i) S).2.1++[(f os[i]! (B0 f (os.take i) S).2.2).2.1],(f os[i]! (B0 f (os.take i) S).2.2).2.2):=by
 grind [aB,wh]
def po(f:hD->Τ->List fK×hD×Τ):∀(os:List hD) (S:Τ),(B0 f os S).2.1.length=os.length
 | [],S=>rfl
 | o::os,S=>by simp only[B0,aL,po f os]
structure Rc (f:hD->Τ->List fK×hD×Τ) (os:List hD) (S:Τ) (i:Nat) (ys:List E9) (O:List fK):Prop where
 le:i<=os.length
 len:ys.length=os.length
 ow:ys.map E9.m=(B0 f (os.take i) S).2.1++os.drop i
 O:O=(B0 f (os.take i) S).1
theorem Rc.at{f:hD->Τ->List fK×hD×Τ}{os:List hD}{S:Τ}{i:Nat}{ys:List E9}{O:List fK}(h:Rc f os S i ys O)(hi:i<os.length):ys[i]!.m=os[i]!:=by
 have T:=po f (os.take i) S;rw[aP,dE h.le] at T;have e:(ys.map E9.m)[i]! = ys[i]!.m:=eZ (f:=E9.m) (by rw[h.len];exact hi);rw[<-e,h.ow,E7 ah,eJ D,List.getElem_drop,E7 hi];congr 1;omega
def Rc.next{f:hD->Τ->List fK×hD×Τ}{os:List hD}{S:Τ}{i:Nat}{ys:List E9}{O:List fK}(h:Rc f os S i ys O)(hi:i<os.length){o' : E9}{a2:List fK}
  (A:a2=(f ys[i]!.m (B0 f (os.take i) S).2.2).1) (J:o'.m=(f ys[i]!.m (B0 f (os.take i) S).2.2).2.1):Rc f os S (i+1) (ys.set i o') (O++a2):=by
 have T:=po f (os.take i) S;rw[aP,dE h.le] at T;rw[h.at hi] at A J;refine⟨hi,by rw[bU];exact h.len,?_,?_⟩
 .rw[qz f os S hi,List.map_set,h.ow,fB _ _ D,J,T,Nat.sub_self,bZ hi,fU,aF];rfl
 .rw[qz f os S hi,h.O,A]
theorem Rc.keep{f:hD->Τ->List fK×hD×Τ}{os:List hD}{S:Τ}{i:Nat}{ys:List E9}{O:List fK}(h:Rc f os S i ys O)(hi:i<os.length){A:List fK}
  (J:A=(f ys[i]!.m (B0 f (os.take i) S).2.2).1) (a2:ys[i]!.m=(f ys[i]!.m (B0 f (os.take i) S).2.2).2.1):Rc f os S (i+1) ys (O++A):=by
 have e:ys.set i ys[i]! = ys:=by
  have T:=h.len;rw[E7 D];exact eC D
 have:=h.next hi J a2
 grind
theorem Rc.zero{f:hD->Τ->List fK×hD×Τ}{ys:List E9}{S:Τ}:Rc f (ys.map E9.m) S 0 ys []:=⟨aD _,ah,rfl,rfl⟩
noncomputable def B9(d r cN Κ B:Int)(o:hD)(S:Τ):List fK×hD×Τ:=if o.state=1 then([fI d r o],o,S) else bY d r cN Κ B o S
noncomputable def MX(d B r:Int)(N:ω)(S:Τ):L6:=match ε N.Ψ r with
 | some x=>K6 d B (cD d r x B).1 { N with Ψ:=ez N.Ψ r (cD d r x B).2 } S
 | none=>([],N,S)
noncomputable def K7(d B r:Int)(N:ω)(S:Τ):L6:=match ε N.Γ r with
 | some p =>
  if p.state=1\/p.state=2 then((B0 (B9 d r p.state p.Κ B) p.Α S).1,{ N with Γ:=ez N.Γ r ⟨p.state,p.Κ,(B0 (B9 d r p.state p.Κ B) p.Α S).2.1⟩ },(B0 (B9 d r p.state p.Κ B) p.Α S).2.2)
  else([],N,S)
 | none=>([],N,S)
noncomputable def PV(d B r:Int)(N:ω)(S:Τ):L6:=((MX d B r N S).1++(K7 d B r (MX d B r N S).2.1 (MX d B r N S).2.2).1,(K7 d B r (MX d B r N S).2.1 (MX d B r N S).2.2).2.1,(K7 d B r (MX d B r N S).2.1 (MX d B r N S).2.2).2.2)
noncomputable def cU(d B:Int)(N:ω)(S:Τ):L6:=bT (PV d B) (dZ N) N S
def VA(F:Int)(o:hD):Prop:=QU o/\Rz F o.Χ/\o.Χ.am.length<=12
def La{d F r cN Κ B:Int}{o:hD}{S:Τ}{c:B4}(hs:0<=d/\d<F)(A:F<=12)(hi:Qo F r)(hS:NQ d c (ey S) S)(hk:ey S+dU o<=2000)(ho:VA F o) :
  NQ d c (ey (B9 d r cN Κ B o S).2.2) (B9 d r cN Κ B o S).2.2/\ey (B9 d r cN Κ B o S).2.2+dU (B9 d r cN Κ B o S).2.1<=ey S+dU o/\ey S<=ey (B9 d r cN Κ B o S).2.2/\VA F (B9 d r cN Κ B o S).2.1/\(∀y∈(B9 d r cN Κ B o S).1,S4 F y)/\(B9 d r cN Κ B o S).1.length<=1:=by
 unfold B9;split
 .refine⟨hS,ax _,ax _,ho,λy U=>?_,ax _⟩;obtain rfl:=GO U;exact⟨mZ (hi.i64 A) ho.1,Wr hi hs ho.2 ⟨rfl,rfl,rfl,rfl,rfl⟩⟩
 .obtain⟨I,Q⟩:=vb (r:=r) (cN:=cN) (Κ:=Κ) (B:=B) hS hk;obtain⟨h3,h4⟩:=xD (cN:=cN) (Κ:=Κ) (B:=B) hS hk (hi.i64 A) ho.1;obtain⟨h5,h6⟩:=Wq (d:=d) (r:=r) (cN:=cN) (Κ:=Κ) (B:=B) (o:=o) (S:=S);exact⟨I,Q,Cb,⟨h3,by rw[h5];exact ho.2⟩,λy U=>⟨(h4 y U).ct,Wr hi hs ho.2 (h6 y U)⟩,lR⟩
theorem vk{d F r cN Κ B:Int}{c:B4}(hs:0<=d/\d<F)(A:F<=12)(hi:Qo F r):∀{os:List hD} {S:Τ},NQ d c (ey S) S->ey S+cl os<=2000->(∀o∈os,VA F o) ->
  NQ d c (ey (B0 (B9 d r cN Κ B) os S).2.2) (B0 (B9 d r cN Κ B) os S).2.2/\ey (B0 (B9 d r cN Κ B) os S).2.2+cl (B0 (B9 d r cN Κ B) os S).2.1<=ey S+cl os/\ey S<=ey (B0 (B9 d r cN Κ B) os S).2.2/\(∀o∈(B0 (B9 d r cN Κ B) os S).2.1,VA F o)/\(∀y∈(B0 (B9 d r cN Κ B) os S).1,S4 F y)/\(B0 (B9 d r cN Κ B) os S).1.length<=os.length
 | [],S,hS,_,_=>⟨hS,ax _,ax _,λo h=>iJ h aH,λy h=>iJ h aH,ax _⟩
 | o::os,S,hS,hk,ho=>by
  have e2:∀(a:hD) (l:List hD),cl (a::l)=dU a+cl l:=by grind [cl]
  rw[e2] at hk;obtain⟨J,a2,a3,a4,a5,a6⟩:=La (cN:=cN) (Κ:=Κ) (B:=B) (S:=S) hs A hi hS D (ho o au);obtain⟨b1,b2,b3,b4,b5,b6⟩:=vk (cN:=cN) (Κ:=Κ) (B:=B) hs A hi (os:=os) J D λx M=>ho x (az _ M);simp only[B0];refine⟨b1,by rw[e2,e2];omega,D,λx M=>?_,λy U=>?_,?_⟩
  .rcases L7 M with rfl|M
   .exact a4
   .exact b4 x M
  .rcases J4 U with U|U
   .exact a5 y U
   .exact b5 y U
  .rw[aA,aL];omega
theorem vV{d:Int}{gs W:List Int}{ct:G4}{y:fK}(h:y∈ck d gs W ct):y.ct=ct/\y.to∈gs/\¬y.to∈W:=by
 grind [ck]
theorem Fz{υ:B4}{d F B r:Int}{N:ω}{S:Τ}{x:K4}(hs:0<=d/\d<F)(a2:F<=12)(h:PU υ d F N S)(M:ε N.Ψ r=some x) :
  ((cD d r x B).2.Α=x.Α/\(cD d r x B).2.lq=x.lq/\(cD d r x B).2.C7=x.C7/\((d∈x.I8\/x.dec=true)->d∈(cD d r x B).2.I8\/(cD d r x B).2.dec=true))/\(∀m∈(cD d r x B).1,QV d 7 m/\QH F m/\cost d m=0)/\(cD d r x B).1.length<=100:=by
 have hw:=h.Ol.ex _ (bR M);have hi:Qo F r:=hw.r;have hI:=hi.i64 a2;have a3:=hw.ok.gl;have h3:xs 3:=by unfold xs;omega
 have h0:xs 0:=by unfold xs;omega
 have J:∀(W:List Int) (t:Bool),∀m∈ck d x.lq W (D4 3 r 0 t),QV d 7 m/\QH F m/\cost d m=0:=λW t m hm=>by
  have hX:=oZ (show(1:Int)<=3 by decide) hi hs hw.gv (λl h=>iJ h aH) (aD _) m hm;obtain⟨q1,q2,q3⟩:=vV hm;refine⟨⟨by rw[q1];exact jt h3 hI h0,by decide,λ_=>by rw[q1];show(7:Int)<=3+7;decide⟩,hX,?_⟩;unfold cost;rw[q1];split<;>rfl
 have A:∀(W:List Int) (ct:G4),(ck d x.lq W ct).length<=100:=by grind [kQ]
 unfold cD;split
 .grind
 .rename_i hd;split
  .exact⟨⟨rfl,rfl,rfl,λ_=>.inr rfl⟩,J _ _,A _ _⟩
  .refine⟨⟨rfl,rfl,rfl,λq=>q⟩,λm hm=>?_,A _ _⟩;have hX:=oZ (show(1:Int)<=1 by decide) hi hs hw.gv hw.ts hw.am m hm;obtain⟨q1,q2,q3⟩:=vV hm;refine⟨⟨by rw[q1];exact⟨by grind [xs],hw.ok.Α,hw.ok.lg,aD _,ah⟩,by decide,ah⟩,hX,?_⟩;unfold cost;split
   .rename_i e;rw[e] at q2 q3;exact iJ (h.sv r x M q2) ah
   .rfl
def HA{υ:B4}{d F B r:Int}{N:ω}{S:Τ}{b:Nat}(hs:0<=d/\d<F)(A:F<=12)(h:PU υ d F N S)(hb:ey S+F0 N<=b)(J:b<=2000):QW υ d F N b 330000 (MX d B r N S):=by
 unfold MX;cases M:ε N.Ψ r with
 | none=>exact QW.same h hb
 | some x =>
  have a2:=(h.Ol.ex _ (bR M)).ok.gl;obtain⟨⟨e1,e2,e3,e4⟩,T,hn⟩:=Fz (B:=B) hs A h M;dsimp only;have Δ:=Hi (B:=B) (b:=b) hs J (λm hm=>(T m hm).1) (λm hm=>(T m hm).2.1) (h.hin.J2 (r:=r) (x:=(cD d r x B).2) (by rw[e2];exact a2)) (h.Ol.J2 M e1 e2 e3) (λk=>vM ((h.sv k).J2 M e2 e4)) (by rw[kb λm hm=>(T m hm).2.2];exact hb);exact⟨Δ.nd,Δ.bd,Δ.O,aO Δ.len (bS _ hn),Δ.ν⟩
theorem Mi{υ:B4}{d F B r:Int}{N:ω}{S:Τ}{b:Nat}(hs:0<=d/\d<F)(A:F<=12)(h:PU υ d F N S)(hb:ey S+F0 N<=b)(b0:b<=2000):QW υ d F N b 100 (K7 d B r N S):=by
 unfold K7;cases M:ε N.Γ r with
 | none=>exact QW.same h hb
 | some p =>
  have hw:=h.Ol.pt _ (bR M);have hp:=h.hin.pts _ (bR M);have a9:=lx (bR M);dsimp only at a9 ⊢;split
  .obtain⟨J,a2,a3,a4,a5,a6⟩:=vk (cN:=p.state) (Κ:=p.Κ) (B:=B) hs A (r:=r) hw.r (os:=p.Α) h.hin.J1 D λo ho=>⟨hp.ow o ho,hw.ts o ho⟩;have h3:=po (B9 d r p.state p.Κ B) p.Α S;have a7:=hp.Α;dsimp only at a7 a6;have h5:=rA (q:=⟨p.state,p.Κ,(B0 (B9 d r p.state p.Κ B) p.Α S).2.1⟩) h.hin.nd M;refine⟨⟨h.hin.K5 J a3 ⟨ah,λo ho=>(a4 o ho).1⟩,h.Ol.K5 ⟨hw.r,λo ho=>(a4 o ho).2⟩ _,λk=>(h.sv k).of rfl⟩,?_,a5,ah,rfl⟩;grind
  .exact QW.same h hb
theorem Mk{υ:B4}{d F B r:Int}{N:ω}{S:Τ}{b:Nat}(hs:0<=d/\d<F)(A:F<=12)(h:PU υ d F N S)(hb:ey S+F0 N<=b)(J:b<=2000):QW υ d F N b 330100 (PV d B r N S):=by
 have I:=HA (B:=B) (r:=r) hs A h hb J;have Q:=Mi (B:=B) (r:=r) hs A I.nd I.bd J;have l1:=I.len;have l2:=Q.len;unfold PV;refine⟨Q.nd,Q.bd,λy U=>?_,ah,Q.ν.trans I.ν⟩;rcases J4 U with U|U
 .exact I.O y U
 .exact Q.O y U
def tA{υ:B4}{d F B:Int}{b:Nat}(hs:0<=d/\d<F)(A:F<=12)(J:b<=2000):∀(h1:List Int) (N:ω) (S:Τ),PU υ d F N S->ey S+F0 N<=b->QW υ d F N b (h1.length*330100) (bT (PV d B) h1 N S)
 | [],N,S,h,hb=>QW.same h hb
 | r::h1,N,S,h,hb=>by
  have I:=Mk (B:=B) (r:=r) hs A h hb J;have Q:=tA (B:=B) hs A J h1 _ _ I.nd I.bd;have l1:=I.len;have l2:=Q.len;simp only[bT];refine⟨Q.nd,Q.bd,λy U=>?_,by rw[aA,aL,dX];omega,Q.ν.trans I.ν⟩;rcases J4 U with U|U
  .exact I.O y U
  .exact Q.O y U
theorem PU.VB{υ:B4}{d F:Int}{N:ω}{S:Τ}(h:PU υ d F N S)(J:F<=12):N.Ψ.length<=768/\N.Γ.length<=768:=by
 have I:=yW h.Ol.nb λr A=>by
  obtain⟨p,hp,rfl⟩:=H8 A;exact(h.Ol.ex p hp).r
 have Q:=yW h.Ol.np λr A=>by
  obtain⟨p,hp,rfl⟩:=H8 A;exact(h.Ol.pt p hp).r
 grind
def lm{υ:B4}{d F B:Int}{N:ω}{S:Τ}{b:Nat}(hs:0<=d/\d<F)(A:F<=12)(h:PU υ d F N S)(hb:ey S+F0 N<=b)(J:b<=2000):QW υ d F N b 600000000 (cU d B N S):=by
 have Δ:=tA (B:=B) hs A J (dZ N) N S h hb;have I:=pH N;have Q:=h.VB A;exact⟨Δ.nd,Δ.bd,Δ.O,aO Δ.len D,Δ.ν⟩
end
section
open Go.V
attribute [local irreducible] Β Y GP δ vi GF GE Z Ef C0 E CB GB V.Enters bH K6
def rj{L:Ι}(nb lb:Nat)(d F:Int)(hs:0<=d/\d<F)(a3:F<=12)(n0:G2)(S0:Τ)(υ:B4)(hA:PU υ d F n0.m S0)(h5:ey S0+F0 n0.m<=2000)(B:Int) :
  Υ Λ 41 #[ay nb,K B] (fh nb lb d F n0 (aT lb S0::L)) (lQ nb lb d F (cU d B n0.m S0) L):=by
 have h3:=hA.VB a3;have j2:n0.m.Ψ.length=n0.Ψ.length:=ak _;have k3:n0.m.Γ.length=n0.Γ.length:=ak _;have j4:=pH n0.m;unfold cU;refine Υ.bd ?_;refine ML ?_;intros;refine Y.ca (uB nb lb d F n0 D D) ?_;rintro _ _⟨OG,OH,rfl,rfl⟩;generalize dZ n0.m=ks at *;have hF:=λi=>tA (B:=B) (b:=2000) hs a3 (ax _) (ks.take i) n0.m S0 hA h5;refine ML ?_;intros;refine Β.loop (α:=Nat×G2×OA×Nat×List N7) (λg=>g.1<=ks.length/\g.2.1.m=(bT (PV d B) (ks.take g.1) n0.m S0).2.1/\g.2.2.2.2.map (·.m)=(bT (PV d B) (ks.take g.1) n0.m S0).1) (λg=>[(0,ay nb),(1,K B),(5,ae g.2.2.1 g.2.2.2.2.length g.2.2.2.1),(14,ae OG ks.length OH),(15,K (ks.length:Int)),(16,K (g.1:Int))]) (λg=>μ be 3 B2 g.2.2.1 g.2.2.2.1 g.2.2.2.2::η gO g.2.2.2.2::μ (eU .i64) 1 C3 OG OH ks::fh nb lb d F g.2.1 (aT lb (bT (PV d B) (ks.take g.1) n0.m S0).2.2::L)) (λg=>ks.length - g.1) (0,n0,none,0,[]) ⟨aD _,by rw[bA];rfl,by rw[bA];rfl⟩ aG ?_ ?_
 .dsimp only;rw[bA];refine(E.c8 be 3 B2).trans ((E.c7 gO).trans ?_);simp only[fh,hl,bT];exact aj
 rintro⟨i,n,N2,N3,O⟩ ⟨hi,hn,c0⟩;dsimp only at hi hn c0 ⊢;have d4:=hF i
 have k2:O.length<=600000000:=by
  have e1:=congrArg List.length c0;have e2:=d4.len;rw[ak] at e1;rw[aP] at e2;have e3:=bS 330100 (D:min i ks.length<=1536);omega
 by_cases h7:i<ks.length
 case neg =>
  have d2:ks.take i=ks:=aN D;rw[d2] at hn c0 ⊢;refine ML ?_;intros;refine KX.a8 aC ?_ ⟨N2,N3,O,n,rfl,c0,hn,rfl⟩;simp only[fh,hl];exact aj
 have h4:(i:Int).toNat=i:=D;have J:=pP (PV d B) ks n0.m S0 h7;generalize bT (PV d B) (ks.take i) n0.m S0=lp at *;have c4:PU υ d F n.m lp.2.2:=by rw[hn];exact d4.nd
 have g7:ey lp.2.2+F0 n.m<=2000:=by rw[hn];exact d4.bd
 rw[<-hn] at J;generalize hS1:lp.2.2=S1 at *;generalize hkk:ks[i]! = k at *;have d5:PV d B k n.m S1=((MX d B k n.m S1).1++(K7 d B k (MX d B k n.m S1).2.1 (MX d B k n.m S1).2.2).1,(K7 d B k (MX d B k n.m S1).2.1 (MX d B k n.m S1).2.2).2.1,(K7 d B k (MX d B k n.m S1).2.1 (MX d B k n.m S1).2.2).2.2):=rfl;rw[d5] at J;dsimp only at J;have hU:=HA (B:=B) (r:=k) hs a3 c4 g7 (ax _);simp only[fh,hl];refine Β.c8 (eN (b:=n.mb)) λf5=>?_;repeat first|refine Β.sm 5 ?_|refine dz ?_|intro
 rw[h4,hkk];refine Β.c7 (α:=G2×OA×Nat×List N7) (λg=>g.1.m=(MX d B k n.m S1).2.1/\g.2.2.2.map (·.m)=O.map (·.m)++(MX d B k n.m S1).1) (λg=>[(0,ay nb),(1,K B),(5,ae g.2.1 g.2.2.2.length g.2.2.1),(7,K k),(14,ae OG ks.length OH),(15,K (ks.length:Int)),(16,K (i:Int))]) (λg=>μ be 3 B2 g.2.1 g.2.2.1 g.2.2.2::η gO g.2.2.2::μ (eU .i64) 1 C3 OG OH ks::fh nb lb d F g.1 (aT lb (MX d B k n.m S1).2.2::L)) ?_ ?_
 .cases hg:List.lookup k n.Ψ with
  | none =>
   have hu:MX d B k n.m S1=([],n.m,S1):=by
    unfold MX;rw[fX,hg];rfl
   rw[hu];refine ML ?_;intros;refine Y.ev (Z.a8 rfl rfl) ac ?_;rw[hg];dsimp only[Option.map,Option.getD,Option.isSome];refine ML ?_;intros;refine⟨(n,N2,N3,O),⟨rfl,(aJ _).symm⟩,aG,?_⟩;simp only[fh,hl];exact aj
  | some x =>
   have T:ε n.m.Ψ k=some x.m:=by rw[fX,hg];rfl
   have hw:=c4.Ol.ex _ (bR T);have c5:Qo F k:=hw.r;have hI:xs k:=c5.i64 a3;obtain⟨⟨e1,e2,e3,e4⟩,hm,b3⟩:=Fz (B:=B) hs a3 c4 T
   have hu:MX d B k n.m S1=K6 d B (cD d k x.m B).1 { n.m with Ψ:=ez n.m.Ψ k (cD d k x.m B).2 } S1:=by
    unfold MX;rw[T]
   have hin:=c4.hin.J2 (r:=k) (x:=(cD d k x.m B).2) (by rw[e2];exact hw.ok.gl);have i5:=hU.len;refine Β.cM (E.at (Φ:=h2 I2 n.Ψ) (qY f5 hg)) ?_;simp only[Oj,NC];refine ML ?_;intros;refine Y.ev (Z.a8 rfl rfl) ac ?_;rw[hg];dsimp only[Option.map,Option.getD,Option.isSome,cz];refine ML ?_;intros;refine Y.cM (Ε:=obj nb C5 (hl lb d F n.ν n.T n.mb n.mp n.mr)::Oj x (h2 I2 (I1 n.Ψ k)::ew gT cz n.mb n.Ψ::ew gT cC n.mp n.Γ::h2 H6 n.Γ::ew D6 bM n.mr (J7 n.wk)::aT lb S1::μ be 3 B2 N2 N3 O::η gO O::μ (eU .i64) 1 C3 OG OH ks::L)) (by simp only[hl,Oj,NC];exact aj) ?_;refine Y.ca (Fy nb lb d F n.ν n.T n.mb n.mp n.mr k hI x hw.ok B) ?_;rintro _ _⟨g4,c3,us,y,rfl,i7,g1,rfl⟩;have e7:us.map (·.m)=(cD d k x.m B).1:=congrArg (·.1) g1;have e8:y.m=(cD d k x.m B).2:=congrArg (·.2) g1;let n1:G2:={ n with Ψ:=ez n.Ψ k y }
   have f4:n1.m={ n.m with Ψ:=ez n.m.Ψ k (cD d k x.m B).2 }:=by
    rw[<-e8];exact rF n k y
   rw[<-f4] at hin hu;rw[<-e7] at hm b3 hu;rw[ak] at b3;have i4:F0 n1.m=F0 n.m:=by rw[f4];rfl
   have hz:gy d (us.map (·.m))=0:=kb λm d6=>(hm m d6).2.2;rw[hu] at i5 ⊢;refine ML ?_;intros;refine Y.cM (Ε:=μ be 3 B2 g4 c3 us::η gO us::fh nb lb d F n1 (aT lb S1::(μ be 3 B2 N2 N3 O::η gO O::μ (eU .i64) 1 C3 OG OH ks::L))) ?_ ?_
   .refine E.trans ?_ (E.a8 (E.a8 (kz f5 hg y i7)));simp only[Oj,hl];exact aj
   refine Y.ca (nz nb lb d F n1 S1 υ 2000 (ax _) B g4 c3 us (λm d6=>(hm _ (O6 d6)).1) hin D D D) ?_;rintro _ _⟨i9,g6,ds,n2,rfl,f2,b6,rfl⟩
   have j3:ds.length<=330000:=by
    have e:=congrArg List.length f2;rw[ak] at e;omega
   simp only[fh,hl];refine ML ?_;intros;refine Y.ef (Ef.c9 (Η:=be) (ys:=ds) rfl rfl rfl rfl rfl (λe _=>ec e) D D) ac ?_;rintro _ _⟨b8,a9,rfl,rfl⟩;refine ML ?_;intros;refine⟨(n2,b8,a9,O++ds),⟨b6,by rw[aQ,f2]⟩,aG,?_⟩;refine(E.at (Φ:=η gO ds) (E.refl _)).trans ?_;refine(E.at (Φ:=η gO O) (E.refl _)).trans ?_;refine(E.c9 (f:=gO) fj).trans ?_;simp only[fh,hl];exact aj
 rintro⟨n2,b1,A,b4⟩ ⟨b6,a6⟩;dsimp only at b6 a6 ⊢
 have h9:b4.length<=600330000:=by
  have e1:=congrArg List.length a6;have e2:=hU.len;rw[ak,aA,ak] at e1;omega
 generalize MX d B k n.m S1=B3 at *;have d3:PU υ d F n2.m B3.2.2:=by rw[b6];exact hU.nd
 have j1:ey B3.2.2+F0 n2.m<=2000:=by rw[b6];exact hU.bd
 rw[<-b6] at J;generalize hS2:B3.2.2=S2 at *;rw[c0] at a6;simp only[fh,hl];refine Β.c8 (eN (b:=n2.mp)) λd0=>?_;cases hg:List.lookup k n2.Γ with
 | none =>
  have hp:K7 d B k n2.m S2=([],n2.m,S2):=by
   unfold K7;rw[fN,hg];rfl
  rw[hp] at J;refine ML ?_;intros;refine Y.ev (Z.a8 rfl rfl) ac ?_;rw[hg];dsimp only[Option.map,Option.getD,Option.isSome];refine ML ?_;intros;refine⟨(i+1,n2,b1,A,b4),⟨by dsimp only;omega,by rw[J],by rw[J];dsimp only;rw[aJ];exact a6⟩,by dsimp only;omega,?_,?_⟩
  .dsimp only;rw[bJ i];exact aG
  .rw[J];simp only[fh,hl];exact aj
 | some p =>
  have T:ε n2.m.Γ k=some p.m:=by rw[fN,hg];rfl
  have hw:=d3.Ol.pt _ (bR T);have c5:Qo F k:=hw.r;have f0:xs k:=c5.i64 a3;have d1:=d3.hin.pts _ (bR T);have i3:=lx (bR T);dsimp only at d1 i3 hw;refine Β.cM (E.at (Φ:=h2 H6 n2.Γ) (nk d0 hg)) ?_;have b5:=jo (nb:=nb) (lb:=lb) (d:=d) (F:=F) (L:=aT lb S2::L) d0 hg p rfl;rw[iQ hg d0] at b5;simp only[fh,hl,OU,Of] at b5 ⊢;by_cases c1:p.state=1\/p.state=2
  case neg =>
   have I:¬p.state=1:=λq=>c1 (.inl q);have Q:¬p.state=2:=λq=>c1 (.inr q)
   have hp:K7 d B k n2.m S2=([],n2.m,S2):=by
    unfold K7;rw[T];exact Ο c1
   rw[hp] at J;refine ML ?_;intros;refine Y.ev (Z.a8 rfl rfl) ac ?_;rw[hg];dsimp only[Option.map,Option.getD,Option.isSome,cC];refine ML ?_;intros;refine⟨(i+1,n2,b1,A,b4),⟨by dsimp only;omega,by rw[J],by rw[J];dsimp only;rw[aJ];exact a6⟩,by dsimp only;omega,?_,?_⟩
   .dsimp only;rw[bJ i];exact aG
   .rw[J];dsimp only;refine E.trans ?_ (E.a8 (E.a8 (E.a8 b5)));exact aj
  have hp:K7 d B k n2.m S2=((B0 (B9 d k p.state p.Κ B) p.m.Α S2).1,{ n2.m with Γ:=ez n2.m.Γ k ⟨p.state,p.Κ,(B0 (B9 d k p.state p.Κ B) p.m.Α S2).2.1⟩ },(B0 (B9 d k p.state p.Κ B) p.m.Α S2).2.2):=by
   unfold K7;rw[T];exact Ω c1
  rw[hp] at J;refine ML ?_;intros;refine Y.ev (Z.a8 rfl rfl) ac ?_;rw[hg];dsimp only[Option.map,Option.getD,Option.isSome,cC];repeat first|refine Β.sm 9 ?_|refine dz ?_|intro
  refine Β.c7 (α:=Unit) (λ_=>True) (λ_=>[(0,ay nb),(1,K B),(5,ae b1 b4.length A),(7,K k),(10,.pointer (some ⟨p.b,0,none⟩)),(14,ae OG ks.length OH),(15,K (ks.length:Int)),(16,K (i:Int))]) (λ_=>obj p.b NS [K p.state,K p.Κ,ae p.bD p.Α.length p.id]::μ dy 8 NN p.bD p.id p.Α::η I9 p.Α::μ be 3 B2 b1 A b4::η gO b4::aT lb S2::obj nb C5 [ay lb,K d,K F,K n2.ν,K n2.T,.map (some n2.mb),.map (some n2.mp),.map (some n2.mr)]::μ (eU .i64) 1 C3 OG OH ks::h2 H6 (I1 n2.Γ k)::ew gT cz n2.mb n2.Ψ::h2 I2 n2.Ψ::ew gT cC n2.mp n2.Γ::ew D6 bM n2.mr (J7 n2.wk)::L) ?_ ?_
  .rcases c1 with I|I
   .refine ML ?_;intros;exact⟨(),trivial,aG,by exact aj⟩
   .have Q:¬p.state=1:=D;refine ML ?_;intros;exact⟨(),trivial,aG,by exact aj⟩
  rintro _ _;have i2:p.m.Α.length=p.Α.length:=ak _;have j0:=d1.Α;have e6:=λj=>vk (cN:=p.state) (Κ:=p.Κ) (B:=B) hs a3 c5 (os:=p.m.Α.take j) (S:=S2) (c:=υ) d3.hin.J1 (by have:=jX p.m.Α j;omega) (λo ho=>⟨d1.ow o (cI ho),hw.ts o (cI ho)⟩);refine ML ?_;intros;refine Β.loop (α:=Nat×List E9×OA×Nat×List N7) (λg=>∃mm,Rc (B9 d k p.state p.Κ B) p.m.Α S2 g.1 g.2.1 mm/\g.2.2.2.2.map (·.m)=b4.map (·.m)++mm) (λg=>[(0,ay nb),(1,K B),(5,ae g.2.2.1 g.2.2.2.2.length g.2.2.2.1),(7,K k),(10,.pointer (some ⟨p.b,0,none⟩)),(14,ae OG ks.length OH),(15,K (ks.length:Int)),(16,K (i:Int)),(69,K (p.Α.length:Int)),(70,K (g.1:Int))]) (λg=>obj p.b NS [K p.state,K p.Κ,ae p.bD g.2.1.length p.id]::μ dy 8 NN p.bD p.id g.2.1::η I9 g.2.1::μ be 3 B2 g.2.2.1 g.2.2.2.1 g.2.2.2.2::η gO g.2.2.2.2::aT lb (B0 (B9 d k p.state p.Κ B) (p.m.Α.take g.1) S2).2.2::obj nb C5 [ay lb,K d,K F,K n2.ν,K n2.T,.map (some n2.mb),.map (some n2.mp),.map (some n2.mr)]::μ (eU .i64) 1 C3 OG OH ks::h2 H6 (I1 n2.Γ k)::ew gT cz n2.mb n2.Ψ::h2 I2 n2.Ψ::ew gT cC n2.mp n2.Γ::ew D6 bM n2.mr (J7 n2.wk)::L) (λg=>p.Α.length - g.1) (0,p.Α,b1,A,b4) ⟨[],Rc.zero,(aJ _).symm⟩ aG ?_ ?_
  .dsimp only;rw[bA];simp only[B0];exact aj
  rintro⟨j,ys,b2,a5,b0⟩ ⟨mm,hI,a7⟩;dsimp only at hI a7 ⊢;have k0:=hI.le;have k4:=hI.len;obtain⟨r1,r2,r3,r4,r5,r6⟩:=e6 j
  have i0:b0.length<=600330100:=by
   have e1:=congrArg List.length a7;have e2:=hI.O;rw[ak,aA,ak,e2] at e1;rw[aP] at r6;omega
  by_cases h8:j<p.Α.length
  case neg =>
   have d2:p.m.Α.take j=p.m.Α:=aN D;have e5:=hI.ow;have f3:=hI.O;rw[d2] at e5 f3;rw[d2];rw[bV D,aJ] at e5;let n3:G2:={ n2 with Γ:=ez n2.Γ k (⟨p.b,p.state,p.Κ,ys,p.bD,p.id⟩:J6) }
   have i1:n3.m={ n2.m with Γ:=ez n2.m.Γ k ⟨p.state,p.Κ,(B0 (B9 d k p.state p.Κ B) p.m.Α S2).2.1⟩ }:=by
    refine(nM n2 k (⟨p.b,p.state,p.Κ,ys,p.bD,p.id⟩:J6)).trans ?_;rw[<-e5];rfl
   refine ML ?_;intros;refine⟨(i+1,n3,b2,a5,b0),⟨by dsimp only;omega,by rw[J];exact i1,?_⟩,by dsimp only;omega,?_,?_⟩
   .dsimp only;rw[J,a7,a6,f3,aF]
   .dsimp only;rw[bJ i];exact aG
   .rw[J];dsimp only;refine E.trans ?_ (E.a8 (E.a8 (E.a8 (jo d0 hg (⟨p.b,p.state,p.Κ,ys,p.bD,p.id⟩:J6) rfl))));simp only[OU,Of,hl];exact aj
  have a2:j<p.m.Α.length:=D;have b9:(j:Int).toNat=j:=D;have f1:=hI.at a2;have e0:ys[j]!∈ys:=bI D;have g0:QU ys[j]!.m:=by rw[f1];exact d1.ow _ (bI a2)
  have a4:=qz (B9 d k p.state p.Κ B) p.m.Α S2 a2;generalize hR:B0 (B9 d k p.state p.Κ B) (p.m.Α.take j) S2=R at *
  have e1:cl (p.m.Α.take (j+1))=cl (p.m.Α.take j)+dU p.m.Α[j]!:=by
   unfold cl;rw[aB a2,aQ,dV,E7 a2];simp only[al,bu,aR,List.sum_nil,dw]
  have e2:=jX p.m.Α (j+1);have f6:∀{o' : E9} {m2:List fK},m2=(B9 d k p.state p.Κ B ys[j]!.m R.2.2).1->o'.m=(B9 d k p.state p.Κ B ys[j]!.m R.2.2).2.1->Rc (B9 d k p.state p.Κ B) p.m.Α S2 (j+1) (ys.set j o') (mm++m2):=λI Q=>hI.next a2 (by rw[hR];exact I) (by rw[hR];exact Q);have c6:∀{m2:List fK},m2=(B9 d k p.state p.Κ B ys[j]!.m R.2.2).1->ys[j]!.m=(B9 d k p.state p.Κ B ys[j]!.m R.2.2).2.1->Rc (B9 d k p.state p.Κ B) p.m.Α S2 (j+1) ys (mm++m2):=λI Q=>hI.keep a2 (by rw[hR];exact I) (by rw[hR];exact Q);rw[<-f1] at a4 e1;refine Β.c8 (pD (ad:=p.bD) (G:=ys) D) λe9=>?_;by_cases h0:ys[j]!.state=0
  .have c2:B9 d k p.state p.Κ B ys[j]!.m R.2.2=bY d k p.state p.Κ B ys[j]!.m R.2.2:=Ο (D:¬ys[j]!.state=1)
   have h6:ys[j]!.state=0->ey R.2.2+ys[j]!.Χ.m.am.length<=2000:=λq=>by
    have e3:dU ys[j]!.m=ys[j]!.Χ.m.am.length:=Ω q;omega
   rw[c2] at a4 f6;refine ML ?_;intros;rw[b9];refine ML ?_;intros;rw[b9];refine Y.cM (Ε:=obj nb C5 (hl lb d F n2.ν n2.T n2.mb n2.mp n2.mr)::obj p.b NS (Of ⟨p.b,p.state,p.Κ,ys,p.bD,p.id⟩)::μ dy 8 NN p.bD p.id ys::η I9 ys::aT lb R.2.2::(μ be 3 B2 b2 a5 b0::η gO b0::μ (eU .i64) 1 C3 OG OH ks::h2 H6 (I1 n2.Γ k)::ew gT cz n2.mb n2.Ψ::h2 I2 n2.Ψ::ew gT cC n2.mp n2.Γ::ew D6 bM n2.mr (J7 n2.wk)::L)) (by simp only[hl,Of];exact aj) ?_;refine Y.ca (mV nb lb d F n2.ν n2.T n2.mb n2.mp n2.mr υ _ R.2.2 r1 k f0 p.b p.state p.Κ p.bD p.id e9 ys j D g0 B h6) ?_;rintro _ _⟨i8,g5,b7,o2,rfl,g3,rfl⟩;have g2:b7.map (·.m)=(bY d k p.state p.Κ B ys[j]!.m R.2.2).1:=congrArg (·.1) g3;have i6:o2.m=(bY d k p.state p.Κ B ys[j]!.m R.2.2).2.1:=congrArg (·.2.1) g3
   have k1:b7.length<=1:=by
    have I:=congrArg List.length g2;rw[ak] at I;rw[I];exact lR
   simp only[hl,Of];refine ML ?_;intros;refine Y.ef (Ef.c9 (Η:=be) (ys:=b7) rfl rfl rfl rfl rfl (λe _=>ec e) D D) ac ?_;rintro _ _⟨b8,a9,rfl,rfl⟩;refine ML ?_;intros;refine⟨(j+1,ys.set j o2,b8,a9,b0++b7),⟨mm++b7.map (·.m),f6 g2 i6,by rw[aQ,a7,aF]⟩,by dsimp only;omega,?_,?_⟩
   .dsimp only;rw[bJ j];exact aG
   .dsimp only;rw[a4,bU];dsimp only;refine(E.at (Φ:=η gO b7) (E.refl _)).trans ?_;refine(E.at (Φ:=η gO b0) (E.refl _)).trans ?_;refine(E.c9 (f:=gO) fj).trans ?_;exact aj
  by_cases I:ys[j]!.state=1
  .have c2:B9 d k p.state p.Κ B ys[j]!.m R.2.2=([fI d k ys[j]!.m],ys[j]!.m,R.2.2):=Ω (show ys[j]!.m.state=1 from I);rw[c2] at a4 c6;refine ML ?_;intros;rw[b9];refine ML ?_;intros;rw[b9];refine Y.cM (E.at (Φ:=η I9 ys) (E.d8 (f:=I9) e0)) ?_;refine Y.cM (Ε:=obj nb C5 (hl lb d F n2.ν n2.T n2.mb n2.mp n2.mr)::I9 ys[j]!::(obj p.b NS [K p.state,K p.Κ,ae p.bD ys.length p.id]::μ dy 8 NN p.bD p.id ys::η I9 ys::aT lb R.2.2::μ be 3 B2 b2 a5 b0::η gO b0::μ (eU .i64) 1 C3 OG OH ks::h2 H6 (I1 n2.Γ k)::ew gT cz n2.mb n2.Ψ::h2 I2 n2.Ψ::ew gT cC n2.mp n2.Γ::ew D6 bM n2.mr (J7 n2.wk)::L)) (by simp only[hl];exact aj) ?_;refine Y.ca (pZ nb lb d F n2.ν n2.T n2.mb n2.mp n2.mr k f0 p.bD e9 ys j D ys[j]! rfl g0) ?_;rintro _ _⟨x,rfl,M,rfl⟩;simp only[hl];refine ML ?_;intros;refine Y.ef (Ef.a8 (Η:=be) (e:=x) rfl rfl rfl rfl rfl aY (ec _) D D) ac ?_;rintro _ _⟨b8,a9,rfl,rfl⟩;refine ML ?_;intros;refine⟨(j+1,ys,b8,a9,b0++[x]),⟨mm++[fI d k ys[j]!.m],c6 rfl rfl,by rw[aQ,a7,aF,al,bu,M]⟩,by dsimp only;omega,?_,?_⟩
   .dsimp only;rw[bJ j];exact aG
   .dsimp only;rw[a4];dsimp only;refine(E.at (Φ:=gO x) (E.d7 (f:=gO) fj)).trans ?_;refine(E.at (Φ:=η gO [x]) (E.refl _)).trans ?_;refine(E.at (Φ:=η gO b0) (E.refl _)).trans ?_;refine(E.c9 (f:=gO) fj).trans ?_;exact aj
  have c2:B9 d k p.state p.Κ B ys[j]!.m R.2.2=([],ys[j]!.m,R.2.2):=by
   unfold B9;rw[Ο (show ¬ys[j]!.m.state=1 from I),jS h0]
  rw[c2] at a4 c6;refine ML ?_;intros;rw[b9];refine ML ?_;intros;refine⟨(j+1,ys,b2,a5,b0),⟨mm++[],c6 rfl rfl,by rw[aJ];exact a7⟩,by dsimp only;omega,?_,?_⟩
  .dsimp only;rw[bJ j];exact aG
  .dsimp only;rw[a4];exact aj
end
section
open Go.V
abbrev lF:Nat:=65
def Tv(x:Int×Int):Prop:=(0<=x.1/\x.1<=3)/\1<=x.2/\x.2<=12
structure TZ (n:Int) (l:x4):Prop where
 d:0<=l.d/\l.d<n
 fr : -1<=l.fr/\l.fr<=3
 ts:0<=l.ts/\l.ts<=n
 to:1<=l.to/\l.to<=4
 len:1<=l.am.length/\l.am.length<=3
 am:∀x∈l.am,Tv x
attribute [local irreducible] Β Y GP δ vi GF GE Z Ef C0 E CB GB V.Enters bH K6
def nA{L:Ι}(n:Int)(hn:0<=n/\n<100000) :
  Υ Λ 68 #[K n] L (λv Ε=>∃ad cap am,v=ae ad am.length cap/\((1<=am.length/\am.length<=3)/\∀x∈am,Tv x)/\Ε = μ eh 2 Qh ad cap am::L):=by
 have I:(0<=n % 4/\n % 4<=3)/\(0<=n / 4 % 4/\n / 4 % 4<=3)/\(0<=n / 16 % 12/\n / 16 % 12<=11)/\(0<=n / 192 % 6/\n / 192 % 6<=5):=D;obtain⟨g1,g2,g3,g4⟩:=I;refine Υ.bd ?_;repeat first|refine Β.sm 4 ?_|refine dz ?_|intro
 rename_i b5;generalize n % 4=a at *;generalize n / 4 % 4=b at *;generalize n / 16 % 12=c at *;refine Β.cM (Ε:=μ eh 2 Qh (some ⟨b5,0,none⟩) 1 [(a,1+c)]::L) ((E.at (Φ:=obj b5 Qh [K a,K (1+c)]) (E.d9 (Η:=eh) (sz:=2) (G:=[(a,1+c)]) (n:=1) rfl rfl (by intro x M;rfl) ac)).trans aj) ?_;refine Β.c7 (α:=OA×Nat×List (Int×Int)) (λg=>(1<=g.2.2.length/\g.2.2.length<=2)/\∀x∈g.2.2,Tv x) (λg=>[(0,K n),(3,K a),(4,K b),(5,ae g.1 g.2.2.length g.2.1)]) (λg=>μ eh 2 Qh g.1 g.2.1 g.2.2::L) ?_ ?_
 .have a6:([(a,1+c)]:List (Int×Int)).length=1:=rfl;have a4:∀x∈[(a,1+c)],Tv x:=λx M=>by rw[GO M];unfold Tv;dsimp only;omega
  by_cases hb:b>a
  .refine ML ?_;intros;refine Y.ef (Ef.a8 (Η:=eh) (e:=(b,1+n / 192 % 6)) rfl rfl rfl rfl rfl aY (mf _) D D) ac ?_;rintro _ _⟨a2,A,rfl,rfl⟩;refine ML ?_;intros;refine⟨(a2,A,[(a,1+c)]++[(b,1+n / 192 % 6)]),⟨⟨by simp,by simp⟩,λx M=>?_⟩,aG,by exact aj⟩;rcases J4 M with M|M
   .exact a4 x M
   .rw[GO M];unfold Tv;dsimp only;omega
  .refine ML ?_;intros;exact⟨(some ⟨b5,0,none⟩,1,[(a,1+c)]),⟨⟨ax _,by simp⟩,a4⟩,aG,by exact aj⟩
 rintro⟨ad,cap,am⟩ ⟨a3,J⟩;dsimp only at a3 J ⊢;by_cases a5:n % 97=0
 .refine ML ?_;intros;refine Y.ef (Ef.a8 (Η:=eh) (e:=(a,1)) rfl rfl rfl rfl rfl aY (mf _) D D) ac ?_;rintro _ _⟨a2,A,rfl,rfl⟩;refine ML ?_;intros;refine KX.a8 aC aj ⟨a2,A,am++[(a,1)],rfl,⟨by simp;omega,λx M=>?_⟩,rfl⟩;rcases J4 M with M|M
  .exact J x M
  .rw[GO M];unfold Tv;dsimp only;omega
 .refine ML ?_;intros;exact KX.a8 aC (E.refl _) ⟨ad,cap,am,rfl,⟨D,J⟩,rfl⟩
