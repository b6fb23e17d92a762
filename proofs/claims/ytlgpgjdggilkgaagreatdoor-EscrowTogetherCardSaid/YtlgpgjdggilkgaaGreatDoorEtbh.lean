/- Lemmas. -/
import Derived.Test.YtlgpgjdggilkgaaGreatDoorEtbg
set_option linter.all false
set_option maxHeartbeats 8000000
namespace Go.Proofs.YtlgpgjdggilkgaaGreatDoor
section
open Go.V
abbrev iZ:Nat:=65
def TY(x:Int×Int):Prop:=(0<=x.1/\x.1<=3)/\1<=x.2/\x.2<=12
structure Ur (n:Int) (l:lu):Prop where
 d:0<=l.d/\l.d<n
 fr : -1<=l.fr/\l.fr<=3
 ts:0<=l.ts/\l.ts<=n
 to:1<=l.to/\l.to<=4
 len:1<=l.am.length/\l.am.length<=3
 am:∀x∈l.am,TY x
attribute [local irreducible] Α GO GP δ ms GF GE Ev Ef C0 F CB GB V.Enters bJ L9
def nD{L:Η}(n:Int)(hn:0<=n/\n<100000) :
  Τ Θ 68 #[J n] L (λv Γ=>∃ad cap am,v=ah ad am.length cap/\((1<=am.length/\am.length<=3)/\∀x∈am,TY x)/\Γ = Ω dZ 2 Qc ad cap am::L):=by
 have K:(0<=n % 4/\n % 4<=3)/\(0<=n / 4 % 4/\n / 4 % 4<=3)/\(0<=n / 16 % 12/\n / 16 % 12<=11)/\(0<=n / 192 % 6/\n / 192 % 6<=5):=D;obtain⟨g1,g2,g3,g4⟩:=K;refine Τ.bd ?_;repeat first|refine Α.sm 4 ?_|refine dA ?_|intro
 rename_i b5;generalize n % 4=a at *;generalize n / 4 % 4=b at *;generalize n / 16 % 12=c at *;refine Α.cL (Γ:=Ω dZ 2 Qc (some ⟨b5,0,none⟩) 1 [(a,1+c)]::L) ((F.at (Ο:=obj b5 Qc [J a,J (1+c)]) (F.d9 (Ε:=dZ) (sz:=2) (I:=[(a,1+c)]) (n:=1) rfl rfl (by intro x O;rfl) ae)).trans ak) ?_;refine Α.c7 (α:=OA×Nat×List (Int×Int)) (λg=>(1<=g.2.2.length/\g.2.2.length<=2)/\∀x∈g.2.2,TY x) (λg=>[(0,J n),(3,J a),(4,J b),(5,ah g.1 g.2.2.length g.2.1)]) (λg=>Ω dZ 2 Qc g.1 g.2.1 g.2.2::L) ?_ ?_
 .have a6:([(a,1+c)]:List (Int×Int)).length=1:=rfl;have a4:∀x∈[(a,1+c)],TY x:=λx O=>by rw[F6 O];unfold TY;dsimp only;omega
  by_cases hb:b>a
  .refine Nd ?_;intros;refine GO.ef (Ef.a8 (Ε:=dZ) (e:=(b,1+n / 192 % 6)) rfl rfl rfl rfl rfl bh (mg _) D D) ae ?_;rintro _ _⟨a2,B,rfl,rfl⟩;refine Nd ?_;intros;refine⟨(a2,B,[(a,1+c)]++[(b,1+n / 192 % 6)]),⟨⟨by simp,by simp⟩,λx O=>?_⟩,aD,by exact ak⟩;rcases J8 O with O|O
   .exact a4 x O
   .rw[F6 O];unfold TY;dsimp only;omega
  .refine Nd ?_;intros;exact⟨(some ⟨b5,0,none⟩,1,[(a,1+c)]),⟨⟨an _,by simp⟩,a4⟩,aD,by exact ak⟩
 rintro⟨ad,cap,am⟩ ⟨a3,M⟩;dsimp only at a3 M ⊢;by_cases a5:n % 97=0
 .refine Nd ?_;intros;refine GO.ef (Ef.a8 (Ε:=dZ) (e:=(a,1)) rfl rfl rfl rfl rfl bh (mg _) D D) ae ?_;rintro _ _⟨a2,B,rfl,rfl⟩;refine Nd ?_;intros;refine KX.a8 aF ak ⟨a2,B,am++[(a,1)],rfl,⟨by simp;omega,λx O=>?_⟩,rfl⟩;rcases J8 O with O|O
  .exact M x O
  .rw[F6 O];unfold TY;dsimp only;omega
 .refine Nd ?_;intros;exact KX.a8 aF (F.refl _) ⟨ad,cap,am,rfl,⟨D,M⟩,rfl⟩
end
section
open Go.V
attribute [local irreducible] Α GO GP δ ms GF GE Ev Ef C0 F CB GB V.Enters bJ L9
def pz{L:Η}(n:Int)(hn:1<=n/\n<=12)(ad:OA)(c:Nat)(l:List Int)[hrd:F2 L ad Int (dJ .i64) 1 l](O:∀x∈l,vi x)(at_:Int)(b8:0<=at_/\at_<=1000000) :
  Τ Θ 26 #[J n,ah ad l.length c,J at_] L (λv Γ=>∃b1 a5 ls,v=ah b1 ls.length a5/\((1<=ls.length/\ls.length<=4)/\∀x∈ls,Ur n x.m)/\Γ = Ω aZ 5 iZ b1 a5 ls::Ψ iJ ls::L):=by
 refine Τ.bd ?_;refine Nd ?_;intros;refine Α.loop (α:=Nat×OA×Nat×List Nl) (λg=>(g.1<=4/\g.2.2.2.length=g.1)/\∀x∈g.2.2.2,Ur n x.m) (λg=>[(0,J n),(1,ah ad l.length c),(2,J at_),(7,ah g.2.1 g.2.2.2.length g.2.2.1),(8,J (g.1:Int))]) (λg=>Ω aZ 5 iZ g.2.1 g.2.2.1 g.2.2.2::Ψ iJ g.2.2.2::L) (λg=>4 - g.1) (0,none,0,[]) ⟨⟨aC _,rfl⟩,λx h=>hD h aG⟩ aD ?_ ?_
 .dsimp only;refine(F.a8 iJ).trans ((F.c8 aZ 5 iZ).trans ?_);exact ak
 rintro⟨i,a4,a2,zs⟩ ⟨⟨hi,b2⟩,hz⟩;dsimp only at hi b2 hz ⊢;refine Nd ?_;intros;refine GO.ca (kA ad l.length c l rfl O at_ 4 ae) ?_;rintro _ _⟨k,rfl,hk,rfl⟩;by_cases b9:(i:Int)<=k
 case neg =>
  refine Nd ?_;intros;refine KX.a8 aF (F.refl _) ⟨a4,a2,zs,rfl,⟨⟨D,D⟩,hz⟩,rfl⟩
 refine Nd ?_;intros;refine GO.ca (kA ad l.length c l rfl O (at_+3*(i:Int)+1) 100000 ae) ?_;rintro _ _⟨p,rfl,hp,rfl⟩;refine Nd ?_;intros;refine GO.ca (kA ad l.length c l rfl O (at_+3*(i:Int)+2) 100000 ae) ?_;rintro _ _⟨m,rfl,hm,rfl⟩;have g1:=eH p (D:n≠0);have g2:=dp p (D:0<n);have g3:=eH m (D:n≠0);have g4:=dp m (D:0<n);have g5:0<=p / 16 % 3/\p / 16 % 3<=2:=D;have g6:0<=m / 16 % 4/\m / 16 % 4<=3:=D;repeat first|refine Α.sn 7 ?_|refine dA ?_|intro
 refine Α.c7 (α:=Nat×OA×Nat×List (Int×Int)) (λg=>(1<=g.2.2.2.length/\g.2.2.2.length<=3)/\∀x∈g.2.2.2,TY x) (λg=>[(0,J n),(1,ah ad l.length c),(2,J at_),(7,ah a4 zs.length a2),(8,J (i:Int)),(9,J p),(10,J m),(11,.pointer (some ⟨g.1,0,none⟩))]) (λg=>obj g.1 iZ [J (p % n),J (1+p / 16 % 3),J (m % n),J (1+m / 16 % 4),ah g.2.1 g.2.2.2.length g.2.2.1]::Ω dZ 2 Qc g.2.1 g.2.2.1 g.2.2.2::Ω aZ 5 iZ a4 a2 zs::Ψ iJ zs::L) ?_ ?_
 .refine Α.f5 mixed Ζ ?_;refine GF.M8 (i:=0) rfl Ζ (Ev.move rfl) ae ?_;refine GF.M8 (i:=1) rfl Ζ (Ev.move rfl) ae ?_;refine GF.M8 (i:=2) rfl Ζ (Ev.rem rfl rfl D D) ae ?_;refine GF.M8 (i:=3) rfl Ζ (Ev.move rfl) ae ?_;refine GF.M8 (i:=4) rfl Ζ (Ev.quo rfl rfl D D D) ae ?_;refine GF.M8 (i:=5) rfl Ζ (Ev.rem rfl rfl D D) ae ?_;refine GF.M8 (i:=6) rfl Ζ (Ev.add rfl rfl D D) ae ?_;refine GF.M8 (i:=7) rfl Ζ (Ev.move rfl) ae ?_;refine GF.M8 (i:=8) rfl Ζ (Ev.move rfl) ae ?_;refine GF.M8 (i:=9) rfl Ζ (Ev.rem rfl rfl D D) ae ?_;refine GF.M8 (i:=10) rfl Ζ (Ev.move rfl) ae ?_;refine GF.M8 (i:=11) rfl Ζ (Ev.quo rfl rfl D D D) ae ?_;refine GF.M8 (i:=12) rfl Ζ (Ev.rem rfl rfl D D) ae ?_;refine GF.M8 (i:=13) rfl Ζ (Ev.add rfl rfl D D) ae ?_;refine GF.M8 (i:=14) rfl Ζ (Ev.move rfl) ae ?_;refine GF.M8 (i:=15) rfl Ζ (Ev.move rfl) ae ?_;refine GF.M8 (i:=16) rfl Ζ (Ev.move rfl) ae ?_;refine GF.M8 (i:=17) rfl Ζ (Ev.mul rfl rfl D D) ae ?_;refine GF.M8 (i:=18) rfl Ζ (Ev.add rfl rfl D D) ae ?_;refine GF.M8 (i:=19) rfl Ζ (Ev.add rfl rfl D D) ae ?_;refine GF.a8 20 23 Ζ ?_ ?_
  .refine GE.ef rfl (Ef.d8 (kA ad l.length c l rfl O (at_+3*(i:Int)+3) 100000 ae) rfl) ae ?_;rintro _ _⟨q,rfl,hq,rfl⟩;refine⟨ut,?_⟩;refine GF.a8 21 23 Ζ ?_ ?_
   .refine GE.ef rfl (Ef.d8 (nD q hq) rfl) ae ?_;rintro _ _⟨M,B,am,rfl,a6,rfl⟩;refine⟨ut,?_⟩;refine GF.wk [.ev 22,.ef 23,.ef 24] Ζ rfl ?_;refine Nd ?_;intros;rename_i a3;exact⟨(a3,M,B,am),a6,aD,by exact ak⟩
   .refine GE.ef rfl Ef.alloc ae ?_;rintro _ _⟨a3,rfl,rfl⟩;refine⟨ut,?_⟩;refine GF.wk [.ef 21,.ev 22,.ef 24] Ζ rfl ?_;refine Nd ?_;intros;refine δ.ca (nD q hq) ?_;rintro _ _⟨M,B,am,rfl,a6,rfl⟩;refine Nd ?_;intros;exact⟨(a3,M,B,am),a6,aD,by exact ak⟩
  .refine GE.ef rfl Ef.alloc ae ?_;rintro _ _⟨a3,rfl,rfl⟩;refine⟨ut,?_⟩;refine GF.wk [.ef 20,.ef 21,.ev 22,.ef 24] Ζ rfl ?_;refine Nd ?_;intros;refine δ.ca (kA ad l.length c l rfl O (at_+3*(i:Int)+3) 100000 ae) ?_;rintro _ _⟨q,rfl,hq,rfl⟩;refine Nd ?_;intros;refine δ.ca (nD q hq) ?_;rintro _ _⟨M,B,am,rfl,a6,rfl⟩;refine Nd ?_;intros;exact⟨(a3,M,B,am),a6,aD,by exact ak⟩
 rintro⟨a3,M,B,am⟩ ⟨a7,a9⟩;dsimp only at a7 a9 ⊢;refine Α.cL (F.at (Ο:=Ω dZ 2 Qc M B am) F.N9) ?_;refine Α.c7 (α:=Int) (λfr=>-1<=fr/\fr<=3) (λfr=>[(0,J n),(1,ah ad l.length c),(2,J at_),(7,ah a4 zs.length a2),(8,J (i:Int)),(9,J p),(10,J m),(11,av a3)]) (λfr=>obj a3 iZ [J (p % n),J fr,J (m % n),J (1+m / 16 % 4),ah M am.length B]::ξ dZ 2 M am::Ω aZ 5 iZ a4 a2 zs::Ψ iJ zs::L) ?_ ?_
 .by_cases b7:p % 89=0
  .have g7:0<=p / 89 % 3/\p / 89 % 3<=2:=D;refine Nd ?_;intros;exact⟨p / 89 % 3 - 1,D,aD,by exact ak⟩
  .refine Nd ?_;intros;exact⟨1+p / 16 % 3,D,aD,by exact ak⟩
 rintro fr b4;refine Α.c7 (α:=Int) (λts=>0<=ts/\ts<=n) (λts=>[(0,J n),(1,ah ad l.length c),(2,J at_),(7,ah a4 zs.length a2),(8,J (i:Int)),(9,J p),(10,J m),(11,av a3)]) (λts=>obj a3 iZ [J (p % n),J fr,J ts,J (1+m / 16 % 4),ah M am.length B]::ξ dZ 2 M am::Ω aZ 5 iZ a4 a2 zs::Ψ iJ zs::L) ?_ ?_
 .by_cases b6:m % 83=0
  .refine Nd ?_;intros;exact⟨n,D,aD,by exact ak⟩
  .refine Nd ?_;intros;exact⟨m % n,D,aD,by exact ak⟩
 rintro ts b5;refine Nd ?_;intros;refine GO.ef (Ef.a8 (Ε:=aZ) (e:=(⟨⟨p % n,fr,ts,1+m / 16 % 4,am⟩,M,B⟩:Nl)) rfl rfl rfl rfl rfl bh (ln _) D D) ae ?_;rintro _ _⟨b3,b0,rfl,rfl⟩;refine Nd ?_;intros;refine⟨(i+1,b3,b0,zs++[⟨⟨p % n,fr,ts,1+m / 16 % 4,am⟩,M,B⟩]),⟨⟨by dsimp only;omega,by simp[b2]⟩,λx O=>?_⟩,by dsimp only;omega,?_,?_⟩
 .rcases J8 O with O|O
  .exact hz x O
  .rw[F6 O];exact⟨⟨g1,g2⟩,b4,b5,by dsimp only;omega,a7,a9⟩
 .dsimp only;rw[bC i];exact aD
 .dsimp only;refine(F.at (Ο:=ξ dZ 2 M am) (F.d7 (f:=iJ) (x:=(⟨⟨p % n,fr,ts,1+m / 16 % 4,am⟩,M,B⟩:Nl)) fB)).trans ?_;refine(F.at (Ο:=Ψ iJ [⟨⟨p % n,fr,ts,1+m / 16 % 4,am⟩,M,B⟩]) (F.refl _)).trans ?_;refine(F.at (Ο:=Ψ iJ zs) (F.refl _)).trans ?_;refine(F.c9 (f:=iJ) fB).trans ?_;exact ak
end
section
open Go.V
def Nv(to x n:Int)(fH:OA):M0:=Od 0 0 [⟨⟨0,to,x,n,[]⟩,none,0⟩] fH 1
structure Vt (to x n:Int):Prop where
 to:1<=to/\to<=3
 a1:0<=x/\x<4
 n:1<=n/\n<40
def xO(to x n:Int)(fH:OA):Sl (Nv to x n fH)/\(Nv to x n fH).fe.length<=(Nv to x n fH).iI:=by
 obtain⟨K,T,h3⟩:=sf (Q:=(Nv to x n fH).fe) (λm hm=>by rw[F6 hm]);exact⟨⟨.inl rfl,by show 1<=1000000;decide,by show vi (-1);unfold vi;decide,K,T,h3⟩,an _⟩
theorem po{k:Int}(h:¬(k=5\/k=7\/k=9)):gU k=false:=by unfold gU;exact bB h
def Kq{to x n now:Int}(h:Vt to x n)(hn:now<=0)(fH:OA):gC I6 now (Nv to x n fH).m:=by
 obtain⟨⟨K,T⟩,⟨h3,h4⟩,h5,h6⟩:=h;refine⟨⟨by show(0:Int)<=0;decide,by show(0:Int)<=10;decide⟩,⟨by show(0:Int)<=0;decide,by show(0:Int)<=1073741824;decide⟩,⟨by show now<=0;exact hn,by show(0:Int)<=1099511627776;decide⟩,⟨by show 1<=1;decide,by show 1<=64;decide⟩,λm hm=>?_,?_⟩
 .rw[F6 hm];refine⟨?_,?_⟩
  .unfold rP;dsimp only[Nv,Od,J3.m];have e:I6.B5.length=4:=rfl;omega
  .rw[show gU (Nv to x n fH).m.Δ=false from po (by show ¬((0:Int)=5\/(0:Int)=7\/(0:Int)=9);decide),Ν ae];rfl
 .unfold ng;have k4:¬(Nv to x n fH).m.Δ=4:=λq=>hD (show(0:Int)=4 from q) ae;have B:¬(Nv to x n fH).m.Δ=10:=λq=>hD (show(0:Int)=10 from q) ae;rw[Ν k4,Ν B];refine⟨λm hm=>?_,rfl,rfl⟩;rw[F6 hm];unfold iw;rw[Χ (.inl rfl)]
theorem MM{k:Nat}{S:Ρ}{to x n:Int}(hS:SZ k S)(hk:k<=2000)(hc:S.π=I6)(hs:S.D9.length<65536)(hn:S.now<=0)(h:Vt to x n)(ht:S.id x+n<=1099511627776)(fH:OA) :
  (E2 S (Nv to x n fH).m).1=0/\(bM S (Nv to x n fH).m).id=Pu S.id x (S.id x+n)/\(bM S (Nv to x n fH).m).now=0:=by
 have hp:gC S.π S.now (Nv to x n fH).m:=by rw[hc];exact Kq h hn fH
 have M:¬to=0:=by have:=h.to;omega
 have B:¬4096<=(S.ν to x).length:=by have:=(hS.g.ν to x).len;omega
 have hm:∀(fl:List E3) (hl:Int->Bool) (s:D6),s.Δ=0->(cg S.D8 fl hl s (ND S) ⟨0,to,x,n,[]⟩).1=0/\(cg S.D8 fl hl s (ND S) ⟨0,to,x,n,[]⟩).2.id=Pu S.id x (S.id x+n):=λfl hl s a2=>by
  have e1:N4 S.D8 (fl++(ND S).Κ) s (ND S) ⟨0,to,x,n,[]⟩=0:=by
   unfold N4;rw[Χ rfl,Ν D,Ν D]
  have e2:du (ND S) ⟨0,to,x,n,[]⟩=S.id x+n:=by
   unfold du;rw[Χ rfl,Ν M];show S.id x+n - 0=_;omega
  have e3:NI hl (ND S) ⟨0,to,x,n,[]⟩=S.ν:=by
   unfold NI;rw[Χ rfl];rfl
  unfold cg;rw[Ν D,e2,Ν D,Ν M,e3,Ν B];exact⟨rfl,rfl⟩
 have hg:E2 S (Nv to x n fH).m=(0,(cg S.D8 S.Κ (fV S.π) ((Nv to x n fH).m.at (cT S)) (ND S) ⟨0,to,x,n,[]⟩).2):=by
  unfold E2;rw[Ν D,Ν aj];show cR _ _ _ _ _ [⟨0,to,x,n,[]⟩]=_;unfold cR;rw[Χ (hm _ _ _ rfl).1];rfl
 have h0:(E2 S (Nv to x n fH).m).1=0:=by rw[hg]
 have hq:bM S (Nv to x n fH).m=fC S (Nv to x n fH).m:=Χ h0;refine⟨h0,?_,?_⟩
 .rw[hq];show(E2 S (Nv to x n fH).m).2.id=_;rw[hg];exact(hm _ _ _ rfl).2
 .rw[hq];unfold Ρ.now fC;dsimp only;rw[List.getLast?_append];rfl
structure Qv (d:Int) (i:Nat) (S:Ρ):Prop where
 K1:Oc d I6 (dg S) S
 k:dg S<=i
 now:S.now=0
 id:∀x,S.id x<=40*(i:Int)
 st:S.D9.length<=i
 run:∃ss:List D6,(∀s∈ss,s.Δ=0/\∀m∈s.fe,m.Λ=0/\1<=m.to/\m.to<=3)/\S=ss.foldl bM (L3 d I6)
def Qv.mono{d:Int}{i j:Nat}{S:Ρ}(h:Qv d i S)(B:i<=j):Qv d j S:=⟨h.K1,aO h.k B,h.now,λx=>by have:=h.id x;omega,aO h.st B,h.run⟩
theorem Qv.post{d:Int}{i:Nat}{S:Ρ}(h:Qv d i S)(hi:i<=1000){to x n:Int}(hp:Vt to x n)(fH:OA):(E2 S (Nv to x n fH).m).1=0/\Qv d (i+1) (bM S (Nv to x n fH).m):=by
 have O:=h.id x;have hn:=hp.n;have hk:=h.k;have M:=h.st;obtain⟨K,T,h3⟩:=MM h.K1.a D h.K1.π D (by rw[h.now];omega) hp D fH;have B:C5 (Nv to x n fH).m.fe=1:=rfl;have hL:=Vq.post h.K1 (Nv to x n fH).m D;refine⟨K,hL,?_,h3,λy=>?_,?_,?_⟩
 .rw[jq,Χ K,B];omega
 .rw[T];unfold Pu;have Y:=h.id y;omega
 .grind [bM,fC]
 .obtain⟨ss,q1,q2⟩:=h.run;refine⟨ss++[(Nv to x n fH).m],λs hs=>?_,aj⟩;rcases J8 hs with hs|hs
  .exact q1 s hs
  .rw[F6 hs];exact⟨rfl,λm hm=>by rw[F6 hm];exact⟨rfl,hp.to⟩⟩
def Qv.zero{d:Int}(h:0<=d/\d<12):Qv d 0 (L3 d I6) :=
 ⟨⟨.zero,GI h I6,bE 0,rfl,⟨λr hr=>hD hr aG,λr hr=>hD hr aG,λr hr=>hD hr aG⟩,rfl⟩,an _,rfl,λ_=>bE 0,an _,[],λs hs=>hD hs aG,rfl⟩
attribute [local irreducible] Α GO GP δ ms GF GE Ev Ef C0 F CB GB V.Enters bJ L9
def Iz{L:Η}(ad:OA)(c:Nat)(i k:Int) :
  Τ Θ 67 #[ah ad 0 c,J i,J k] L (F3 (J 0) L):=by
 refine Τ.bd ?_;by_cases h0:0<=i
 .have K:¬i<((0:Nat):Int):=D;refine Nd ?_;intros;exact KX.en ⟨rfl,rfl⟩
 .refine Nd ?_;intros;exact KX.en ⟨rfl,rfl⟩
theorem xN{L:Η}(ad:OA)(m c:Nat)(l:List Int)[hrd:F2 L ad Int (dJ .i64) 1 l](hm:m=l.length)(O:∀x∈l,vi x) :
  Τ Θ 48 #[ah ad m c] L (λv Γ=>∃a7 a2 ss,v=ah a7 ss.length a2/\((ss.length<=8/\(l=[]->ss=[]))/\∀s∈ss,∃to x n fH,s=Nv to x n fH/\Vt to x n)/\Γ = Ω eK 7 ji a7 a2 ss::Ψ iu ss::L):=by
 subst hm;refine Τ.bd ?_;refine Nd ?_;intros;refine Α.loop (α:=Nat×OA×Nat×List M0) (λg=>(g.1<=8/\g.2.2.2.length<=g.1/\(l=[]->g.2.2.2=[]))/\∀s∈g.2.2.2,∃to x n fH,s=Nv to x n fH/\Vt to x n) (λg=>[(0,ah ad l.length c),(3,ah g.2.1 g.2.2.2.length g.2.2.1),(4,J (g.1:Int))]) (λg=>Ω eK 7 ji g.2.1 g.2.2.1 g.2.2.2::Ψ iu g.2.2.2::L) (λg=>8 - g.1) (0,none,0,[]) aj aD ?_ ?_
 .dsimp only;refine(F.a8 iu).trans ((F.c8 eK 7 ji).trans ?_);exact ak
 rintro⟨i,a6,M,zs⟩ ⟨⟨hi,b2,a5⟩,hz⟩;dsimp only at hi b2 a5 hz ⊢;by_cases b3:i<8
 case neg =>
  refine Nd ?_;intros;exact KX.a8 aF (F.refl _) ⟨a6,M,zs,rfl,⟨⟨D,a5⟩,hz⟩,rfl⟩
 have a9:(i:Int)<8:=D;by_cases a4:l=[]
 .subst a4;have b1:zs=[]:=a5 rfl;subst b1;rw[bu];refine Nd ?_;intros;refine GO.cr (Iz ad c (2*(i:Int)) 40) ?_;refine Nd ?_;intros;refine⟨(i+1,a6,M,[]),⟨⟨D,aC _,λ_=>rfl⟩,hz⟩,D,?_,by exact ak⟩;dsimp only;rw[bC i];exact aD
 refine Nd ?_;intros;refine GO.ca (kA ad l.length c l rfl O (2*(i:Int)) 40 ae) ?_;rintro _ _⟨n,rfl,hn,rfl⟩;by_cases b4:n>0
 case neg =>
  refine Nd ?_;intros;refine⟨(i+1,a6,M,zs),⟨⟨D,aj,λq=>hD q a4⟩,hz⟩,D,?_,by exact ak⟩;dsimp only;rw[bC i];exact aD
 refine Nd ?_;intros;refine GO.ca (kA ad l.length c l rfl O (2*(i:Int)+1) 4 ae) ?_;rintro _ _⟨x,rfl,b0,rfl⟩;refine Nd ?_;intros;rename_i bm bs;refine GO.ef (Ef.a8 (Ε:=eK) (e:=Nv (1+(i:Int) % 3) x n (some ⟨bm,0,none⟩)) rfl rfl rfl rfl rfl bh (uO _) D D) ae ?_;rintro _ _⟨a3,B,rfl,rfl⟩;refine Nd ?_;intros;refine⟨(i+1,a3,B,zs++[Nv (1+(i:Int) % 3) x n (some ⟨bm,0,none⟩)]),⟨⟨D,by simp;omega,λq=>hD q a4⟩,λs hs=>?_⟩,D,?_,?_⟩
 .rcases J8 hs with hs|hs
  .exact hz s hs
  .exact⟨_,_,_,_,F6 hs,⟨D,b0,D⟩⟩
 .dsimp only;rw[bC i];exact aD
 .dsimp only;refine(F.at (Ο:=obj bm OY [J 0,J (1+(i:Int) % 3),J x,J n,ah none 0 0]) (F.d9 (Ε:=cu) (sz:=5) (I:=(Nv (1+(i:Int) % 3) x n (some ⟨bm,0,none⟩)).fe) (n:=1) rfl rfl (by intro y Y;rfl) ae)).trans ?_;refine F.N9.trans ?_;refine(F.f5 aL 3 none).trans ?_;refine(F.d7 (f:=Ns) (x:=(⟨⟨0,1+(i:Int) % 3,x,n,[]⟩,none,0⟩:J3)) ku).trans ?_;refine F.trans (fG:=stM (Nv (1+(i:Int) % 3) x n (some ⟨bm,0,none⟩))::Nu (Nv (1+(i:Int) % 3) x n (some ⟨bm,0,none⟩))::(Ω eK 7 ji a3 B (zs++[Nv (1+(i:Int) % 3) x n (some ⟨bm,0,none⟩)])::Ψ iu zs::L)) ?_ ?_
  .simp only[stM,Nu,Nv,Od];exact ak
  refine(F.f9 (Dw _) (fi ku)).trans ?_;refine(F.d7 (f:=iu) rr).trans ?_;refine F.trans (fG:=Ψ iu zs::Ψ iu [Nv (1+(i:Int) % 3) x n (some ⟨bm,0,none⟩)]::(Ω eK 7 ji a3 B (zs++[Nv (1+(i:Int) % 3) x n (some ⟨bm,0,none⟩)])::L)) ak ?_;refine(F.c9 (f:=iu) rr).trans ?_;exact ak
end
section
open Go.V
abbrev RE:Nat:=34
structure Pf where
 Δ:Int
 d:Int
 n:Int
 Z:List Nl
 bG:OA
 hx:Nat
 wait:Int
 deriving Inhabited
def iz(o:Pf):τ:=[J o.Δ,J o.d,J o.n,ah o.bG o.Z.length o.hx,J o.wait]
def Hk(o:Pf):∀u∈iz o,u.oneCell' = true:=by simp[iz,Value.oneCell']
def OR(o:Pf):HP:=SC (ξ aZ 5 o.bG o.Z) (Ψ iJ o.Z)
def JQ(o:Pf):Om (OR o):=Om.and (cQ _ _ _ _) (fi fB)
structure TZ (n:Int) (o:Pf):Prop where
 Δ:0<=o.Δ/\o.Δ<=5
 d:0<=o.d/\o.d<n
 num:0<=o.n/\o.n<1073741824
 wait : -1<=o.wait/\o.wait<=7
 Ut:o.Δ=4->0<=o.wait
 len:o.Z.length<=4
 lg:∀x∈o.Z,Ur n x.m
attribute [local irreducible] Α GO GP δ ms GF GE Ev Ef C0 F CB GB V.Enters bJ L9
abbrev Ez:=Ze [.ev 17,.ev 18,.ev 19,.ev 20,.ev 21,.ev 22,.ev 23,.ev 24,.ev 25,.ev 26,.ef 27,.ef 28,.ev 29]
def Xm{φ ψ:Prop}(k:ψ)(h:Hid ψ->φ:=by intro k;(repeat (first|refine ab ?_|intro B6|refine Α.dr 41 5 Ez ?_));(repeat revert B6);exact Hid.out k):φ:=h ⟨k⟩
theorem EL{L:Η}(ad:OA)(n c:Nat)(ls:List Nl)[hrd:F2 L ad Nl aZ 5 ls](hn:n=ls.length)(U:ls.length<=1000) :
  Τ Θ 51 #[ah ad n c] L (λv Γ=>∃a3 B,v=ah a3 ls.length B/\Γ = Ω aZ 5 PT a3 B ls::L):=by
 subst hn;refine Τ.bd ?_;refine Xm ?_;intros;refine Α.loop (α:=Nat×OA×Nat) (λg=>g.1<=ls.length) (λg=>[(0,ah ad ls.length c),(3,ah g.2.1 (ls.take g.1).length g.2.2),(4,J (g.1:Int))]) (λg=>Ω aZ 5 PT g.2.1 g.2.2 (ls.take g.1)::L) (λg=>ls.length - g.1) (0,none,0) D aD ?_ ?_
 .dsimp only;rw[bj];exact F.c8 aZ 5 PT
 rintro⟨i,b0,a2⟩ hi;dsimp only at hi ⊢;have b1:(ls.take i).length<=1000:=by rw[aP];omega
 by_cases a4:i<ls.length
 case neg =>
  have a7:ls.take i=ls:=aj;rw[a7];refine Xm ?_;intros;exact KX.en ⟨b0,a2,rfl,rfl⟩
 have a6:(i:Int).toNat=i:=D;have a9:ls.take (i+1)=ls.take i++[ls[i]!]:=by rw[aB a4,D7 a4]
 refine Xm ?_;intros;rw[a6];refine δ.ef (Ef.a8 (Ε:=aZ) (e:=ls[i]!) rfl rfl rfl rfl rfl bh (ln _) D D) ae ?_;rintro _ _⟨a5,M,rfl,rfl⟩;rw[<-a9];refine Xm ?_;intros;refine⟨(i+1,a5,M),by dsimp only;omega,D,?_,by exact ak⟩;dsimp only;rw[bC i];exact aD
def jk(n E:Int)(fH:OA):M0:=Od 1 E [⟨⟨1+n % 3,0,n / 3 % 4,1+n / 12 % 5,[]⟩,none,0⟩] fH 1
def xU(n E:Int)(fH:OA):Sl (jk n E fH)/\(jk n E fH).fe.length<=(jk n E fH).iI:=by
 obtain⟨K,T,h3⟩:=sf (Q:=(jk n E fH).fe) (λm hm=>by rw[F6 hm]);exact⟨⟨.inr (.inl rfl),by show 1<=1000000;decide,by show vi (-1);unfold vi;decide,K,T,h3⟩,an _⟩
def Dz{L:Η}(o:Pf)(ho:0<=o.n/\o.n<1073741824)(E:Int) :
  Τ Θ 31 #[bF (iz o),J E] L (λv Γ=>∃fH,v=bF (eK (jk o.n E fH))/\Γ = stM (jk o.n E fH)::Nu (jk o.n E fH)::L):=by
 refine Τ.bd ?_;refine Nd ?_;intros;rename_i bo bs bm;refine KX.a8 (vs:=[bF (eK (jk o.n E (some ⟨bm,0,none⟩)))]) (C7.cell rfl bh C7.nil) ?_ ⟨some ⟨bm,0,none⟩,rfl,rfl⟩;refine(F.at (Ο:=obj bm OY [J (1+o.n % 3),J 0,J (o.n / 3 % 4),J (1+o.n / 12 % 5),ah none 0 0]) (F.d9 (Ε:=cu) (sz:=5) (I:=(jk o.n E (some ⟨bm,0,none⟩)).fe) (n:=1) rfl rfl (by intro y Y;rfl) ae)).trans ?_;refine F.N9.trans ?_;refine(F.f5 aL 3 none).trans ?_;refine(F.d7 (f:=Ns) (x:=(⟨⟨1+o.n % 3,0,o.n / 3 % 4,1+o.n / 12 % 5,[]⟩,none,0⟩:J3)) ku).trans ?_;simp only[stM,Nu,jk,Od];exact ak
def AI{L:Η}(n:Int)(hn:1<=n/\n<=12)(ad:OA)(c:Nat)(l:List Int)[hrd:F2 L ad Int (dJ .i64) 1 l](O:∀x∈l,vi x)(b3:l.length<=9223372036854775807)(B:Int)(b5:0<=B/\B<=1000) :
  Τ Θ 12 #[J n,ah ad l.length c,J B] L (λv Γ=>∃a9 a4 os,v=ah a9 os.length a4/\((os.length:Int)<=B/\∀o∈os,TZ n o)/\Γ = Ω iz 5 RE a9 a4 os::Ψ OR os::L):=by
 refine Τ.bd ?_;refine Nd ?_;intros;refine Α.loop (α:=Nat×OA×Nat×List Pf) (λg=>((g.1:Int)<=B/\g.2.2.2.length=g.1)/\∀o∈g.2.2.2,TZ n o) (λg=>[(0,J n),(1,ah ad l.length c),(2,J B),(7,ah g.2.1 g.2.2.2.length g.2.2.1),(8,J (2*(g.1:Int)))]) (λg=>Ω iz 5 RE g.2.1 g.2.2.1 g.2.2.2::Ψ OR g.2.2.2::L) (λg=>B.toNat - g.1) (0,none,0,[]) ⟨⟨by dsimp only;omega,rfl⟩,λo h=>hD h aG⟩ aD ?_ ?_
 .dsimp only;refine(F.a8 OR).trans ((F.c8 iz 5 RE).trans ?_);exact ak
 rintro⟨i,a6,a2,zs⟩ ⟨⟨hi,b1⟩,hz⟩;dsimp only at hi b1 hz ⊢;by_cases b4:2*(i:Int)+1<l.length
 case neg =>
  refine Nd ?_;intros;exact KX.a8 aF (F.refl _) ⟨a6,a2,zs,rfl,⟨D,hz⟩,rfl⟩
 by_cases b2:(zs.length:Int)<B
 case neg =>
  refine Nd ?_;intros;exact KX.a8 aF (F.refl _) ⟨a6,a2,zs,rfl,⟨D,hz⟩,rfl⟩
 refine Nd ?_;intros;refine GO.ca (mR l[(2*(i:Int)).toNat]! 1073741824 (O _ (bA D)) ae ae) ?_;rintro _ _⟨q,rfl,hq,rfl⟩;refine Nd ?_;intros;refine GO.ca (mR l[(2*(i:Int)+1).toNat]! 1073741824 (O _ (bA D)) ae ae) ?_;rintro _ _⟨m,rfl,hm,rfl⟩;have g1:=eH (q / 16) (D:n≠0);have g2:=dp (q / 16) (D:0<n);repeat first|refine Α.sm 8 ?_|refine dA ?_|intro
 rename_i b0;refine Α.c7 (α:=Pf) (λo=>TZ n o) (λ_=>[(0,J n),(1,ah ad l.length c),(2,J B),(7,ah a6 zs.length a2),(8,J (2*(i:Int))),(11,av b0)]) (λo=>obj b0 RE (iz o)::ξ aZ 5 o.bG o.Z::Ψ iJ o.Z::Ω iz 5 RE a6 a2 zs::Ψ OR zs::L) ?_ ?_
 .have hd:q % 16=0\/q % 16=1\/q % 16=2\/q % 16=3\/q % 16=4\/q % 16=5\/q % 16=6\/q % 16=7\/q % 16=8\/9<=q % 16:=D;simp only[iz];rcases hd with hd|hd|hd|hd|hd|hd|hd|hd|hd|hd
  .refine Nd ?_;intros;refine GO.ca (pz n hn ad c l O (2*(i:Int)) D) ?_;rintro _ _⟨bG,hx,ls,rfl,⟨a5,M⟩,rfl⟩;refine Nd ?_;intros;refine⟨⟨0,q / 16 % n,m,ls,bG,hx,m % 9 - 1⟩,⟨by dsimp only;omega,⟨g1,g2⟩,hm,by dsimp only;omega,λq=>by dsimp only at q;omega,by dsimp only;omega,M⟩,aD,?_⟩;refine(F.at (Ο:=Ω aZ 5 iZ bG hx ls) F.N9).trans ?_;exact ak
  .refine Nd ?_;intros;refine GO.ca (pz n hn ad c l O (2*(i:Int)) D) ?_;rintro _ _⟨bG,hx,ls,rfl,⟨a5,M⟩,rfl⟩;refine Nd ?_;intros;refine⟨⟨0,q / 16 % n,m,ls,bG,hx,m % 9 - 1⟩,⟨by dsimp only;omega,⟨g1,g2⟩,hm,by dsimp only;omega,λq=>by dsimp only at q;omega,by dsimp only;omega,M⟩,aD,?_⟩;refine(F.at (Ο:=Ω aZ 5 iZ bG hx ls) F.N9).trans ?_;exact ak
  .refine Nd ?_;intros;refine GO.ca (pz n hn ad c l O (2*(i:Int)) D) ?_;rintro _ _⟨bG,hx,ls,rfl,⟨a5,M⟩,rfl⟩;refine Nd ?_;intros;refine⟨⟨0,q / 16 % n,m,ls,bG,hx,m % 9 - 1⟩,⟨by dsimp only;omega,⟨g1,g2⟩,hm,by dsimp only;omega,λq=>by dsimp only at q;omega,by dsimp only;omega,M⟩,aD,?_⟩;refine(F.at (Ο:=Ω aZ 5 iZ bG hx ls) F.N9).trans ?_;exact ak
  .refine Nd ?_;intros;refine⟨⟨4,q / 16 % n,m,[],none,0,(m % 4)⟩,⟨by dsimp only;omega,⟨g1,g2⟩,hm,by dsimp only;omega,λq=>by dsimp only;omega,aC _,λx h=>hD h aG⟩,aD,?_⟩;refine(F.a8 iJ).trans ((F.f5 aZ 5 none).trans ?_);exact ak
  .refine Nd ?_;intros;refine⟨⟨4,q / 16 % n,m,[],none,0,(m % 4)⟩,⟨by dsimp only;omega,⟨g1,g2⟩,hm,by dsimp only;omega,λq=>by dsimp only;omega,aC _,λx h=>hD h aG⟩,aD,?_⟩;refine(F.a8 iJ).trans ((F.f5 aZ 5 none).trans ?_);exact ak
  .refine Nd ?_;intros;refine⟨⟨2,q / 16 % n,m,[],none,0,0⟩,⟨by dsimp only;omega,⟨g1,g2⟩,hm,by dsimp only;omega,λq=>by dsimp only at q;omega,aC _,λx h=>hD h aG⟩,aD,?_⟩;refine(F.a8 iJ).trans ((F.f5 aZ 5 none).trans ?_);exact ak
  .refine Nd ?_;intros;refine⟨⟨3,q / 16 % n,m,[],none,0,0⟩,⟨by dsimp only;omega,⟨g1,g2⟩,hm,by dsimp only;omega,λq=>by dsimp only at q;omega,aC _,λx h=>hD h aG⟩,aD,?_⟩;refine(F.a8 iJ).trans ((F.f5 aZ 5 none).trans ?_);exact ak
  .refine Nd ?_;intros;refine⟨⟨3,q / 16 % n,m,[],none,0,0⟩,⟨by dsimp only;omega,⟨g1,g2⟩,hm,by dsimp only;omega,λq=>by dsimp only at q;omega,aC _,λx h=>hD h aG⟩,aD,?_⟩;refine(F.a8 iJ).trans ((F.f5 aZ 5 none).trans ?_);exact ak
  .refine Nd ?_;intros;refine⟨⟨5,q / 16 % n,m,[],none,0,0⟩,⟨by dsimp only;omega,⟨g1,g2⟩,hm,by dsimp only;omega,λq=>by dsimp only at q;omega,aC _,λx h=>hD h aG⟩,aD,?_⟩;refine(F.a8 iJ).trans ((F.f5 aZ 5 none).trans ?_);exact ak
  .refine Nd ?_;intros;refine⟨⟨1,q / 16 % n,m,[],none,0,0⟩,⟨by dsimp only;omega,⟨g1,g2⟩,hm,by dsimp only;omega,λq=>by dsimp only at q;omega,aC _,λx h=>hD h aG⟩,aD,?_⟩;refine(F.a8 iJ).trans ((F.f5 aZ 5 none).trans ?_);exact ak
 rintro o ho;simp only[iz];refine Nd ?_;intros;refine GO.ef (Ef.a8 (Ε:=iz) (e:=o) rfl rfl rfl rfl rfl bh (Hk _) D D) ae ?_;rintro _ _⟨a7,a3,rfl,rfl⟩;refine Nd ?_;intros;refine⟨(i+1,a7,a3,zs++[o]),⟨⟨by dsimp only;omega,by simp[b1]⟩,λx O=>?_⟩,by dsimp only;omega,?_,?_⟩
 .rcases J8 O with O|O
  .exact hz x O
  .rw[F6 O];exact ho
 .dsimp only;rw[show 2*((i+1:Nat):Int)=2*(i:Int)+2 by omega];exact aD
 .dsimp only;refine F.trans (fG:=ξ aZ 5 o.bG o.Z::Ψ iJ o.Z::(Ω iz 5 RE a7 a3 (zs++[o])::Ψ OR zs::L)) ak ?_;refine(F.f9 (cQ _ _ _ _) (fi fB)).trans ?_;refine(F.d7 (f:=OR) (x:=o) JQ).trans ?_;refine F.trans (fG:=Ψ OR zs::Ψ OR [o]::(Ω iz 5 RE a7 a3 (zs++[o])::L)) ak ?_;refine(F.c9 (f:=OR) JQ).trans ?_;exact ak
