/- Lemmas. -/
import Derived.Test.YtlgpgjdggilkgaaGreatDoorEdbh
set_option linter.all false
set_option maxHeartbeats 8000000
namespace Go.Proofs.YtlgpgjdggilkgaaGreatDoor
section
open Go.V
attribute [local irreducible] Β Y GP δ vi GF GE Z Ef C0 E CB GB V.Enters bH K6
def DB{L:Ι}(n:Int)(hn:1<=n/\n<=12)(ad:OA)(c:Nat)(l:List Int)[hrd:F5 L ad Int (eU .i64) 1 l](M:∀x∈l,xs x)(at_:Int)(b8:0<=at_/\at_<=1000000) :
  Υ Λ 26 #[K n,ae ad l.length c,K at_] L (λv Ε=>∃b1 a5 ls,v=ae b1 ls.length a5/\((1<=ls.length/\ls.length<=4)/\∀x∈ls,TZ n x.m)/\Ε = μ aZ 5 lF b1 a5 ls::η ms ls::L):=by
 refine Υ.bd ?_;refine ML ?_;intros;refine Β.loop (α:=Nat×OA×Nat×List MT) (λg=>(g.1<=4/\g.2.2.2.length=g.1)/\∀x∈g.2.2.2,TZ n x.m) (λg=>[(0,K n),(1,ae ad l.length c),(2,K at_),(7,ae g.2.1 g.2.2.2.length g.2.2.1),(8,K (g.1:Int))]) (λg=>μ aZ 5 lF g.2.1 g.2.2.1 g.2.2.2::η ms g.2.2.2::L) (λg=>4 - g.1) (0,none,0,[]) ⟨⟨aD _,rfl⟩,λx h=>iJ h aH⟩ aG ?_ ?_
 .dsimp only;refine(E.c7 ms).trans ((E.c8 aZ 5 lF).trans ?_);exact aj
 rintro⟨i,a4,a2,zs⟩ ⟨⟨hi,b2⟩,hz⟩;dsimp only at hi b2 hz ⊢;refine ML ?_;intros;refine Y.ca (ky ad l.length c l rfl M at_ 4 ac) ?_;rintro _ _⟨k,rfl,hk,rfl⟩;by_cases b9:(i:Int)<=k
 case neg =>
  refine ML ?_;intros;refine KX.a8 aC (E.refl _) ⟨a4,a2,zs,rfl,⟨⟨D,D⟩,hz⟩,rfl⟩
 refine ML ?_;intros;refine Y.ca (ky ad l.length c l rfl M (at_+3*(i:Int)+1) 100000 ac) ?_;rintro _ _⟨p,rfl,hp,rfl⟩;refine ML ?_;intros;refine Y.ca (ky ad l.length c l rfl M (at_+3*(i:Int)+2) 100000 ac) ?_;rintro _ _⟨m,rfl,hm,rfl⟩;have g1:=ft p (D:n≠0);have g2:=dA p (D:0<n);have g3:=ft m (D:n≠0);have g4:=dA m (D:0<n);have g5:0<=p / 16 % 3/\p / 16 % 3<=2:=D;have g6:0<=m / 16 % 4/\m / 16 % 4<=3:=D;repeat first|refine Β.sn 7 ?_|refine dz ?_|intro
 refine Β.c7 (α:=Nat×OA×Nat×List (Int×Int)) (λg=>(1<=g.2.2.2.length/\g.2.2.2.length<=3)/\∀x∈g.2.2.2,Tv x) (λg=>[(0,K n),(1,ae ad l.length c),(2,K at_),(7,ae a4 zs.length a2),(8,K (i:Int)),(9,K p),(10,K m),(11,.pointer (some ⟨g.1,0,none⟩))]) (λg=>obj g.1 lF [K (p % n),K (1+p / 16 % 3),K (m % n),K (1+m / 16 % 4),ae g.2.1 g.2.2.2.length g.2.2.1]::μ eh 2 Qh g.2.1 g.2.2.1 g.2.2.2::μ aZ 5 lF a4 a2 zs::η ms zs::L) ?_ ?_
 .refine Β.f7 mixed Θ ?_;refine GF.MP (i:=0) rfl Θ (Z.move rfl) ac ?_;refine GF.MP (i:=1) rfl Θ (Z.move rfl) ac ?_;refine GF.MP (i:=2) rfl Θ (Z.rem rfl rfl D D) ac ?_;refine GF.MP (i:=3) rfl Θ (Z.move rfl) ac ?_;refine GF.MP (i:=4) rfl Θ (Z.quo rfl rfl D D D) ac ?_;refine GF.MP (i:=5) rfl Θ (Z.rem rfl rfl D D) ac ?_;refine GF.MP (i:=6) rfl Θ (Z.add rfl rfl D D) ac ?_;refine GF.MP (i:=7) rfl Θ (Z.move rfl) ac ?_;refine GF.MP (i:=8) rfl Θ (Z.move rfl) ac ?_;refine GF.MP (i:=9) rfl Θ (Z.rem rfl rfl D D) ac ?_;refine GF.MP (i:=10) rfl Θ (Z.move rfl) ac ?_;refine GF.MP (i:=11) rfl Θ (Z.quo rfl rfl D D D) ac ?_;refine GF.MP (i:=12) rfl Θ (Z.rem rfl rfl D D) ac ?_;refine GF.MP (i:=13) rfl Θ (Z.add rfl rfl D D) ac ?_;refine GF.MP (i:=14) rfl Θ (Z.move rfl) ac ?_;refine GF.MP (i:=15) rfl Θ (Z.move rfl) ac ?_;refine GF.MP (i:=16) rfl Θ (Z.move rfl) ac ?_;refine GF.MP (i:=17) rfl Θ (Z.mul rfl rfl D D) ac ?_;refine GF.MP (i:=18) rfl Θ (Z.add rfl rfl D D) ac ?_;refine GF.MP (i:=19) rfl Θ (Z.add rfl rfl D D) ac ?_;refine GF.a8 20 23 Θ ?_ ?_
  .refine GE.ef rfl (Ef.d8 (ky ad l.length c l rfl M (at_+3*(i:Int)+3) 100000 ac) rfl) ac ?_;rintro _ _⟨q,rfl,hq,rfl⟩;refine⟨uw,?_⟩;refine GF.a8 21 23 Θ ?_ ?_
   .refine GE.ef rfl (Ef.d8 (nA q hq) rfl) ac ?_;rintro _ _⟨J,A,am,rfl,a6,rfl⟩;refine⟨uw,?_⟩;refine GF.y5 [.ev 22,.ef 23,.ef 24] Θ rfl ?_;refine ML ?_;intros;rename_i a3;exact⟨(a3,J,A,am),a6,aG,by exact aj⟩
   .refine GE.ef rfl Ef.alloc ac ?_;rintro _ _⟨a3,rfl,rfl⟩;refine⟨uw,?_⟩;refine GF.y5 [.ef 21,.ev 22,.ef 24] Θ rfl ?_;refine ML ?_;intros;refine δ.ca (nA q hq) ?_;rintro _ _⟨J,A,am,rfl,a6,rfl⟩;refine ML ?_;intros;exact⟨(a3,J,A,am),a6,aG,by exact aj⟩
  .refine GE.ef rfl Ef.alloc ac ?_;rintro _ _⟨a3,rfl,rfl⟩;refine⟨uw,?_⟩;refine GF.y5 [.ef 20,.ef 21,.ev 22,.ef 24] Θ rfl ?_;refine ML ?_;intros;refine δ.ca (ky ad l.length c l rfl M (at_+3*(i:Int)+3) 100000 ac) ?_;rintro _ _⟨q,rfl,hq,rfl⟩;refine ML ?_;intros;refine δ.ca (nA q hq) ?_;rintro _ _⟨J,A,am,rfl,a6,rfl⟩;refine ML ?_;intros;exact⟨(a3,J,A,am),a6,aG,by exact aj⟩
 rintro⟨a3,J,A,am⟩ ⟨a7,a9⟩;dsimp only at a7 a9 ⊢;refine Β.cM (E.at (Φ:=μ eh 2 Qh J A am) E.NZ) ?_;refine Β.c7 (α:=Int) (λfr=>-1<=fr/\fr<=3) (λfr=>[(0,K n),(1,ae ad l.length c),(2,K at_),(7,ae a4 zs.length a2),(8,K (i:Int)),(9,K p),(10,K m),(11,ay a3)]) (λfr=>obj a3 lF [K (p % n),K fr,K (m % n),K (1+m / 16 % 4),ae J am.length A]::τ eh 2 J am::μ aZ 5 lF a4 a2 zs::η ms zs::L) ?_ ?_
 .by_cases b7:p % 89=0
  .have g7:0<=p / 89 % 3/\p / 89 % 3<=2:=D;refine ML ?_;intros;exact⟨p / 89 % 3 - 1,D,aG,by exact aj⟩
  .refine ML ?_;intros;exact⟨1+p / 16 % 3,D,aG,by exact aj⟩
 rintro fr b4;refine Β.c7 (α:=Int) (λts=>0<=ts/\ts<=n) (λts=>[(0,K n),(1,ae ad l.length c),(2,K at_),(7,ae a4 zs.length a2),(8,K (i:Int)),(9,K p),(10,K m),(11,ay a3)]) (λts=>obj a3 lF [K (p % n),K fr,K ts,K (1+m / 16 % 4),ae J am.length A]::τ eh 2 J am::μ aZ 5 lF a4 a2 zs::η ms zs::L) ?_ ?_
 .by_cases b6:m % 83=0
  .refine ML ?_;intros;exact⟨n,D,aG,by exact aj⟩
  .refine ML ?_;intros;exact⟨m % n,D,aG,by exact aj⟩
 rintro ts b5;refine ML ?_;intros;refine Y.ef (Ef.a8 (Η:=aZ) (e:=(⟨⟨p % n,fr,ts,1+m / 16 % 4,am⟩,J,A⟩:MT)) rfl rfl rfl rfl rfl aY (li _) D D) ac ?_;rintro _ _⟨b3,b0,rfl,rfl⟩;refine ML ?_;intros;refine⟨(i+1,b3,b0,zs++[⟨⟨p % n,fr,ts,1+m / 16 % 4,am⟩,J,A⟩]),⟨⟨by dsimp only;omega,by simp[b2]⟩,λx M=>?_⟩,by dsimp only;omega,?_,?_⟩
 .rcases J4 M with M|M
  .exact hz x M
  .rw[GO M];exact⟨⟨g1,g2⟩,b4,b5,by dsimp only;omega,a7,a9⟩
 .dsimp only;rw[bJ i];exact aG
 .dsimp only;refine(E.at (Φ:=τ eh 2 J am) (E.d7 (f:=ms) (x:=(⟨⟨p % n,fr,ts,1+m / 16 % 4,am⟩,J,A⟩:MT)) fx)).trans ?_;refine(E.at (Φ:=η ms [⟨⟨p % n,fr,ts,1+m / 16 % 4,am⟩,J,A⟩]) (E.refl _)).trans ?_;refine(E.at (Φ:=η ms zs) (E.refl _)).trans ?_;refine(E.c9 (f:=ms) fx).trans ?_;exact aj
end
section
open Go.V
def Nc(to x n:Int)(gi:OA):L9:=NR 0 0 [⟨⟨0,to,x,n,[]⟩,none,0⟩] gi 1
structure UX (to x n:Int):Prop where
 to:1<=to/\to<=3
 a1:0<=x/\x<4
 n:1<=n/\n<40
def xR(to x n:Int)(gi:OA):RN (Nc to x n gi)/\(Nc to x n gi).gN.length<=(Nc to x n gi).iM:=by
 obtain⟨I,Q,h3⟩:=se (O:=(Nc to x n gi).gN) (λm hm=>by rw[GO hm]);exact⟨⟨.inl rfl,by show 1<=1000000;decide,by show xs (-1);unfold xs;decide,I,Q,h3⟩,ax _⟩
theorem ph{k:Int}(h:¬(k=5\/k=7\/k=9)):gW k=false:=by unfold gW;exact bz h
def Ka{to x n now:Int}(h:UX to x n)(hn:now<=0)(gi:OA):gD I4 now (Nc to x n gi).m:=by
 obtain⟨⟨I,Q⟩,⟨h3,h4⟩,h5,h6⟩:=h;refine⟨⟨by show(0:Int)<=0;decide,by show(0:Int)<=10;decide⟩,⟨by show(0:Int)<=0;decide,by show(0:Int)<=1073741824;decide⟩,⟨by show now<=0;exact hn,by show(0:Int)<=1099511627776;decide⟩,⟨by show 1<=1;decide,by show 1<=64;decide⟩,λm hm=>?_,?_⟩
 .rw[GO hm];refine⟨?_,?_⟩
  .unfold rQ;dsimp only[Nc,NR,J5.m];have e:I4.B7.length=4:=rfl;omega
  .rw[show gW (Nc to x n gi).m.Ζ=false from ph (by show ¬((0:Int)=5\/(0:Int)=7\/(0:Int)=9);decide),Ο ac];rfl
 .unfold mX;have k4:¬(Nc to x n gi).m.Ζ=4:=λq=>iJ (show(0:Int)=4 from q) ac;have A:¬(Nc to x n gi).m.Ζ=10:=λq=>iJ (show(0:Int)=10 from q) ac;rw[Ο k4,Ο A];refine⟨λm hm=>?_,rfl,rfl⟩;rw[GO hm];unfold iz;rw[Ω (.inl rfl)]
theorem Mu{k:Nat}{S:Τ}{to x n:Int}(hS:St k S)(hk:k<=2000)(hc:S.υ=I4)(hs:S.Ev.length<65536)(hn:S.now<=0)(h:UX to x n)(ht:S.iL x+n<=1099511627776)(gi:OA) :
  (E2 S (Nc to x n gi).m).1=0/\(bN S (Nc to x n gi).m).iL=Pr S.iL x (S.iL x+n)/\(bN S (Nc to x n gi).m).now=0:=by
 have hp:gD S.υ S.now (Nc to x n gi).m:=by rw[hc];exact Ka h hn gi
 have J:¬to=0:=by have:=h.to;omega
 have A:¬4096<=(S.ξ to x).length:=by have:=(hS.g.ξ to x).len;omega
 have hm:∀(fl:List E3) (hy:Int->Bool) (s:D7),s.Ζ=0->(ce S.D9 fl hy s (Nk S) ⟨0,to,x,n,[]⟩).1=0/\(ce S.D9 fl hy s (Nk S) ⟨0,to,x,n,[]⟩).2.iL=Pr S.iL x (S.iL x+n):=λfl hy s a2=>by
  have e1:NL S.D9 (fl++(Nk S).Μ) s (Nk S) ⟨0,to,x,n,[]⟩=0:=by
   unfold NL;rw[Ω rfl,Ο D,Ο D]
  have e2:dt (Nk S) ⟨0,to,x,n,[]⟩=S.iL x+n:=by
   unfold dt;rw[Ω rfl,Ο J];show S.iL x+n - 0=_;omega
  have e3:Np hy (Nk S) ⟨0,to,x,n,[]⟩=S.ξ:=by
   unfold Np;rw[Ω rfl];rfl
  unfold ce;rw[Ο D,e2,Ο D,Ο J,e3,Ο A];exact⟨rfl,rfl⟩
 have hg:E2 S (Nc to x n gi).m=(0,(ce S.D9 S.Μ (fW S.υ) ((Nc to x n gi).m.at (cS S)) (Nk S) ⟨0,to,x,n,[]⟩).2):=by
  unfold E2;rw[Ο D,Ο ah];show cQ _ _ _ _ _ [⟨0,to,x,n,[]⟩]=_;unfold cQ;rw[Ω (hm _ _ _ rfl).1];rfl
 have h0:(E2 S (Nc to x n gi).m).1=0:=by rw[hg]
 have hq:bN S (Nc to x n gi).m=fF S (Nc to x n gi).m:=Ω h0;refine⟨h0,?_,?_⟩
 .rw[hq];show(E2 S (Nc to x n gi).m).2.iL=_;rw[hg];exact(hm _ _ _ rfl).2
 .rw[hq];unfold Τ.now fF;dsimp only;rw[List.getLast?_append];rfl
structure P8 (d:Int) (i:Nat) (S:Τ):Prop where
 J1:NQ d I4 (ey S) S
 k:ey S<=i
 now:S.now=0
 iL:∀x,S.iL x<=40*(i:Int)
 st:S.Ev.length<=i
 run:∃ss:List D7,(∀s∈ss,s.Ζ=0/\∀m∈s.gN,m.Ν=0/\1<=m.to/\m.to<=3)/\S=ss.foldl bN (L1 d I4)
def P8.mono{d:Int}{i j:Nat}{S:Τ}(h:P8 d i S)(A:i<=j):P8 d j S:=⟨h.J1,aO h.k A,h.now,λx=>by have:=h.iL x;omega,aO h.st A,h.run⟩
theorem P8.post{d:Int}{i:Nat}{S:Τ}(h:P8 d i S)(hi:i<=1000){to x n:Int}(hp:UX to x n)(gi:OA):(E2 S (Nc to x n gi).m).1=0/\P8 d (i+1) (bN S (Nc to x n gi).m):=by
 have M:=h.iL x;have hn:=hp.n;have hk:=h.k;have J:=h.st;obtain⟨I,Q,h3⟩:=Mu h.J1.a D h.J1.υ D (by rw[h.now];omega) hp D gi;have A:C6 (Nc to x n gi).m.gN=1:=rfl;have hL:=UU.post h.J1 (Nc to x n gi).m D;refine⟨I,hL,?_,h3,λy=>?_,?_,?_⟩
 .rw[jp,Ω I,A];omega
 .rw[Q];unfold Pr;have U:=h.iL y;omega
 .grind [bN,fF]
 .obtain⟨ss,q1,q2⟩:=h.run;refine⟨ss++[(Nc to x n gi).m],λs hs=>?_,ah⟩;rcases J4 hs with hs|hs
  .exact q1 s hs
  .rw[GO hs];exact⟨rfl,λm hm=>by rw[GO hm];exact⟨rfl,hp.to⟩⟩
def P8.zero{d:Int}(h:0<=d/\d<12):P8 d 0 (L1 d I4) :=
 ⟨⟨.zero,Gw h I4,bE 0,rfl,⟨λΔ hr=>iJ hr aH,λΔ hr=>iJ hr aH,λΔ hr=>iJ hr aH⟩,rfl⟩,ax _,rfl,λ_=>bE 0,ax _,[],λs hs=>iJ hs aH,rfl⟩
attribute [local irreducible] Β Y GP δ vi GF GE Z Ef C0 E CB GB V.Enters bH K6
def Ip{L:Ι}(ad:OA)(c:Nat)(i k:Int) :
  Υ Λ 67 #[ae ad 0 c,K i,K k] L (F7 (K 0) L):=by
 refine Υ.bd ?_;by_cases h0:0<=i
 .have I:¬i<((0:Nat):Int):=D;refine ML ?_;intros;exact KX.en ⟨rfl,rfl⟩
 .refine ML ?_;intros;exact KX.en ⟨rfl,rfl⟩
theorem xQ{L:Ι}(ad:OA)(m c:Nat)(l:List Int)[hrd:F5 L ad Int (eU .i64) 1 l](hm:m=l.length)(M:∀x∈l,xs x) :
  Υ Λ 48 #[ae ad m c] L (λv Ε=>∃a7 a2 ss,v=ae a7 ss.length a2/\((ss.length<=8/\(l=[]->ss=[]))/\∀s∈ss,∃to x n gi,s=Nc to x n gi/\UX to x n)/\Ε = μ eH 7 jh a7 a2 ss::η iw ss::L):=by
 subst hm;refine Υ.bd ?_;refine ML ?_;intros;refine Β.loop (α:=Nat×OA×Nat×List L9) (λg=>(g.1<=8/\g.2.2.2.length<=g.1/\(l=[]->g.2.2.2=[]))/\∀s∈g.2.2.2,∃to x n gi,s=Nc to x n gi/\UX to x n) (λg=>[(0,ae ad l.length c),(3,ae g.2.1 g.2.2.2.length g.2.2.1),(4,K (g.1:Int))]) (λg=>μ eH 7 jh g.2.1 g.2.2.1 g.2.2.2::η iw g.2.2.2::L) (λg=>8 - g.1) (0,none,0,[]) ah aG ?_ ?_
 .dsimp only;refine(E.c7 iw).trans ((E.c8 eH 7 jh).trans ?_);exact aj
 rintro⟨i,a6,J,zs⟩ ⟨⟨hi,b2,a5⟩,hz⟩;dsimp only at hi b2 a5 hz ⊢;by_cases b3:i<8
 case neg =>
  refine ML ?_;intros;exact KX.a8 aC (E.refl _) ⟨a6,J,zs,rfl,⟨⟨D,a5⟩,hz⟩,rfl⟩
 have a9:(i:Int)<8:=D;by_cases a4:l=[]
 .subst a4;have b1:zs=[]:=a5 rfl;subst b1;rw[bq];refine ML ?_;intros;refine Y.cr (Ip ad c (2*(i:Int)) 40) ?_;refine ML ?_;intros;refine⟨(i+1,a6,J,[]),⟨⟨D,aD _,λ_=>rfl⟩,hz⟩,D,?_,by exact aj⟩;dsimp only;rw[bJ i];exact aG
 refine ML ?_;intros;refine Y.ca (ky ad l.length c l rfl M (2*(i:Int)) 40 ac) ?_;rintro _ _⟨n,rfl,hn,rfl⟩;by_cases b4:n>0
 case neg =>
  refine ML ?_;intros;refine⟨(i+1,a6,J,zs),⟨⟨D,ah,λq=>iJ q a4⟩,hz⟩,D,?_,by exact aj⟩;dsimp only;rw[bJ i];exact aG
 refine ML ?_;intros;refine Y.ca (ky ad l.length c l rfl M (2*(i:Int)+1) 4 ac) ?_;rintro _ _⟨x,rfl,b0,rfl⟩;refine ML ?_;intros;rename_i bm bs;refine Y.ef (Ef.a8 (Η:=eH) (e:=Nc (1+(i:Int) % 3) x n (some ⟨bm,0,none⟩)) rfl rfl rfl rfl rfl aY (uT _) D D) ac ?_;rintro _ _⟨a3,A,rfl,rfl⟩;refine ML ?_;intros;refine⟨(i+1,a3,A,zs++[Nc (1+(i:Int) % 3) x n (some ⟨bm,0,none⟩)]),⟨⟨D,by simp;omega,λq=>iJ q a4⟩,λs hs=>?_⟩,D,?_,?_⟩
 .rcases J4 hs with hs|hs
  .exact hz s hs
  .exact⟨_,_,_,_,GO hs,⟨D,b0,D⟩⟩
 .dsimp only;rw[bJ i];exact aG
 .dsimp only;refine(E.at (Φ:=obj bm OC [K 0,K (1+(i:Int) % 3),K x,K n,ae none 0 0]) (E.d9 (Η:=cq) (sz:=5) (G:=(Nc (1+(i:Int) % 3) x n (some ⟨bm,0,none⟩)).gN) (n:=1) rfl rfl (by intro y U;rfl) ac)).trans ?_;refine E.NZ.trans ?_;refine(E.f7 aK 3 none).trans ?_;refine(E.d7 (f:=Na) (x:=(⟨⟨0,1+(i:Int) % 3,x,n,[]⟩,none,0⟩:J5)) kq).trans ?_;refine E.trans (hx:=stM (Nc (1+(i:Int) % 3) x n (some ⟨bm,0,none⟩))::Nb (Nc (1+(i:Int) % 3) x n (some ⟨bm,0,none⟩))::(μ eH 7 jh a3 A (zs++[Nc (1+(i:Int) % 3) x n (some ⟨bm,0,none⟩)])::η iw zs::L)) ?_ ?_
  .simp only[stM,Nb,Nc,NR];exact aj
  refine(E.g8 (Dt _) (eV kq)).trans ?_;refine(E.d7 (f:=iw) rt).trans ?_;refine E.trans (hx:=η iw zs::η iw [Nc (1+(i:Int) % 3) x n (some ⟨bm,0,none⟩)]::(μ eH 7 jh a3 A (zs++[Nc (1+(i:Int) % 3) x n (some ⟨bm,0,none⟩)])::L)) aj ?_;refine(E.c9 (f:=iw) rt).trans ?_;exact aj
end
section
open Go.V
abbrev Ws:Nat:=34
structure Ph where
 Ζ:Int
 d:Int
 n:Int
 Α:List MT
 bD:OA
 id:Nat
 wait:Int
 deriving Inhabited
def EW(o:Ph):χ:=[K o.Ζ,K o.d,K o.n,ae o.bD o.Α.length o.id,K o.wait]
def UY(o:Ph):HP:=R5 (τ aZ 5 o.bD o.Α) (η ms o.Α)
structure T0 (n:Int) (o:Ph):Prop where
 Ζ:0<=o.Ζ/\o.Ζ<=5
 d:0<=o.d/\o.d<n
 num:0<=o.n/\o.n<1073741824
 wait : -1<=o.wait/\o.wait<=7
 Tw:o.Ζ=4->0<=o.wait
 len:o.Α.length<=4
 lg:∀x∈o.Α,TZ n x.m
attribute [local irreducible] Β Y GP δ vi GF GE Z Ef C0 E CB GB V.Enters bH K6
abbrev Es:=Yw [.ev 17,.ev 18,.ev 19,.ev 20,.ev 21,.ev 22,.ev 23,.ev 24,.ev 25,.ev 26,.ef 27,.ef 28,.ev 29]
def WT{φ ψ:Prop}(k:ψ)(h:Hid ψ->φ:=by intro k;(repeat (first|refine ab ?_|intro B8|refine Β.dr 41 5 Es ?_));(repeat revert B8);exact Hid.out k):φ:=h ⟨k⟩
theorem EF{L:Ι}(ad:OA)(n c:Nat)(ls:List MT)[hrd:F5 L ad MT aZ 5 ls](hn:n=ls.length)(T:ls.length<=1000) :
  Υ Λ 51 #[ae ad n c] L (λv Ε=>∃a3 A,v=ae a3 ls.length A/\Ε = μ aZ 5 Pv a3 A ls::L):=by
 subst hn;refine Υ.bd ?_;refine WT ?_;intros;refine Β.loop (α:=Nat×OA×Nat) (λg=>g.1<=ls.length) (λg=>[(0,ae ad ls.length c),(3,ae g.2.1 (ls.take g.1).length g.2.2),(4,K (g.1:Int))]) (λg=>μ aZ 5 Pv g.2.1 g.2.2 (ls.take g.1)::L) (λg=>ls.length - g.1) (0,none,0) D aG ?_ ?_
 .dsimp only;rw[bA];exact E.c8 aZ 5 Pv
 rintro⟨i,b0,a2⟩ hi;dsimp only at hi ⊢;have b1:(ls.take i).length<=1000:=by rw[aP];omega
 by_cases a4:i<ls.length
 case neg =>
  have a7:ls.take i=ls:=ah;rw[a7];refine WT ?_;intros;exact KX.en ⟨b0,a2,rfl,rfl⟩
 have a6:(i:Int).toNat=i:=D;have a9:ls.take (i+1)=ls.take i++[ls[i]!]:=by rw[aB a4,E7 a4]
 refine WT ?_;intros;rw[a6];refine δ.ef (Ef.a8 (Η:=aZ) (e:=ls[i]!) rfl rfl rfl rfl rfl aY (li _) D D) ac ?_;rintro _ _⟨a5,J,rfl,rfl⟩;rw[<-a9];refine WT ?_;intros;refine⟨(i+1,a5,J),by dsimp only;omega,D,?_,by exact aj⟩;dsimp only;rw[bJ i];exact aG
def jj(n B:Int)(gi:OA):L9:=NR 1 B [⟨⟨1+n % 3,0,n / 3 % 4,1+n / 12 % 5,[]⟩,none,0⟩] gi 1
def xX(n B:Int)(gi:OA):RN (jj n B gi)/\(jj n B gi).gN.length<=(jj n B gi).iM:=by
 obtain⟨I,Q,h3⟩:=se (O:=(jj n B gi).gN) (λm hm=>by rw[GO hm]);exact⟨⟨.inr (.inl rfl),by show 1<=1000000;decide,by show xs (-1);unfold xs;decide,I,Q,h3⟩,ax _⟩
def Dw{L:Ι}(o:Ph)(ho:0<=o.n/\o.n<1073741824)(B:Int) :
  Υ Λ 31 #[bC (EW o),K B] L (λv Ε=>∃gi,v=bC (eH (jj o.n B gi))/\Ε = stM (jj o.n B gi)::Nb (jj o.n B gi)::L):=by
 refine Υ.bd ?_;refine ML ?_;intros;rename_i bo bs bm;refine KX.a8 (vs:=[bC (eH (jj o.n B (some ⟨bm,0,none⟩)))]) (C9.cell rfl aY C9.nil) ?_ ⟨some ⟨bm,0,none⟩,rfl,rfl⟩;refine(E.at (Φ:=obj bm OC [K (1+o.n % 3),K 0,K (o.n / 3 % 4),K (1+o.n / 12 % 5),ae none 0 0]) (E.d9 (Η:=cq) (sz:=5) (G:=(jj o.n B (some ⟨bm,0,none⟩)).gN) (n:=1) rfl rfl (by intro y U;rfl) ac)).trans ?_;refine E.NZ.trans ?_;refine(E.f7 aK 3 none).trans ?_;refine(E.d7 (f:=Na) (x:=(⟨⟨1+o.n % 3,0,o.n / 3 % 4,1+o.n / 12 % 5,[]⟩,none,0⟩:J5)) kq).trans ?_;simp only[stM,Nb,jj,NR];exact aj
end
end Go.Proofs.YtlgpgjdggilkgaaGreatDoor
namespace Go.V
def Wt{α:Type}(Η:α->χ)(sz ζ:Nat)(ad:OA)(cap:Nat)(G:List α)(q:List α×OA×Nat):Ι:=[ee ((cap=0\/ad=NJ q.2.1 q.2.2 sz q.1.length)/\q.1.length+cap=q.2.2),μ Η sz ζ q.2.1 q.2.2 (q.1++G)]
def Ou{α:Type}(Η:α->χ)(sz ζ:Nat)(ad:OA)(cap:Nat)(G:List α):HP:=hex λq=>cw (Wt Η sz ζ ad cap G q)
section
variable {α:Type}{θ:Th}{Η:α->χ}{sz ζ:Nat}{ad:OA}{cap:Nat}{G:List α}{L:Ι}{w:World}
theorem Xb(ad:OA)(cap sz:Nat):NJ ad cap sz 0=ad:=by
 unfold NJ;split
 .rfl
 .cases ad with
  | none=>rfl
  | some a =>
   simp only[fq,Nat.zero_mul];congr 1
theorem Ap(a:Addr)(m n:Nat):(a.add m).add n=a.add (m+n):=by
 grind [Addr.add]
theorem Jq{j k:Nat}(h:j+k<cap):NJ (NJ ad cap sz j) (cap - j) sz k=NJ ad cap sz (j+k):=by
 unfold NJ;rw[Ο D,Ο D,Ο D,Option.map_map];congr 1;grind [Ap]
def Sat.VC(s:Sat θ (Ou Η sz ζ ad cap G::L) w):∃(p:List α) (Pk:OA) (Ov:Nat),((cap=0\/ad=NJ Pk Ov sz p.length)/\p.length+cap=Ov)/\Sat θ (μ Η sz ζ Pk Ov (p++G)::L) w:=by
 obtain⟨⟨p,Pk,Ov⟩,s1⟩:=Sat.Te s;have s2:Sat θ (ee ((cap=0\/ad=NJ Pk Ov sz p.length)/\p.length+cap=Ov)::μ Η sz ζ Pk Ov (p++G)::L) w:=Sat.Qd (Φ:=Wt Η sz ζ ad cap G (p,Pk,Ov)) s1;exact⟨p,Pk,Ov,s2.Td,s2.tail⟩
def Sat.d9{p:List α}{Pk:OA}{Ov:Nat}(h:(cap=0\/ad=NJ Pk Ov sz p.length)/\p.length+cap=Ov)(s:Sat θ (μ Η sz ζ Pk Ov (p++G)::L) w):Sat θ (Ou Η sz ζ ad cap G::L) w :=
 Sat.d8 (p,Pk,Ov) (Sat.a8 (Φ:=Wt Η sz ζ ad cap G (p,Pk,Ov)) (Sat.UH s h))
theorem E.k9:E (μ Η sz ζ ad cap G::L) (Ou Η sz ζ ad cap G::L):=λθ R w s=>Sat.d9 (L:=L++R) (p:=[]) (by grind [Xb]) s
def E.m5(Η:α->χ)(sz ζ:Nat):E L (Ou Η sz ζ none 0 []::L):=(E.c8 Η sz ζ).trans E.k9
theorem Sat.Wu(s:Sat θ (Ou Η sz ζ ad cap G::L) w):G.length<=cap:=by
 obtain⟨p,Pk,Ov,h,s1⟩:=s.VC;have:=s1.Qw.2.1
 grind
theorem E.m9{k:Nat}(hk:k<=G.length):E (Ou Η sz ζ ad cap G::L) (Ou Η sz ζ (NJ ad cap sz k) (cap - k) (G.drop k)::L):=λθ R w s=>by
 have T:=Sat.Wu (L:=L++R) s;obtain⟨p,Pk,Ov,⟨I,Q⟩,s1⟩:=Sat.VC (L:=L++R) s;refine Sat.d9 (L:=L++R) (p:=p++G.take k) (Pk:=Pk) (Ov:=Ov) ⟨?_,?_⟩ ?_
 .by_cases hc:cap - k=0
  .omega
  .rw[I.resolve_left D,aA,aP,dE hk,show cap=Ov - p.length by omega];exact .inr (Jq D)
 .grind
 .rw[aF,cL];exact s1
theorem Sat.Xy(s:Sat θ (Ou Η sz ζ ad cap G::L) w):RW w Η sz ad G:=by
 obtain⟨p,Pk,Ov,⟨I,Q⟩,s1⟩:=s.VC;have h3:=s1.Qw.2.1;have h4:=(Sat.VQ s1).drop h3 p.length;rw[List.drop_left] at h4;rcases I with I|I
 .rw[aA] at h3;exact⟨h4.1,.inl (cc D)⟩
 grind
end
instance {α:Type}(L:Ι)(Η:α->χ)(sz ζ:Nat)(ad:OA)(cap:Nat)(G:List α):F5 (Ou Η sz ζ ad cap G::L) ad α Η sz G:=⟨λ_ _ _ s=>Sat.Xy s⟩
class U0 (L:Ι) (ad:OA) (α:outParam Type) (Η:outParam (α->χ)) (sz ζ:outParam Nat) (cap:outParam Nat) (G:outParam (List α)) (R:outParam (Ι)):Prop where
 perm:L.Perm (Ou Η sz ζ ad cap G::R)
instance {α:Type}(L:Ι)(Η:α->χ)(sz ζ:Nat)(ad:OA)(cap:Nat)(G:List α):U0 (Ou Η sz ζ ad cap G::L) ad α Η sz ζ cap G L:=⟨List.Perm.refl _⟩
instance {α:Type}(Φ:HP)(L:Ι)(Η:α->χ)(sz ζ:Nat)(ad:OA)(cap:Nat)(G:List α)(R:Ι)[h:U0 L ad α Η sz ζ cap G R]:U0 (Φ::L) ad α Η sz ζ cap G (Φ::R):=⟨(h.perm.cons Φ).trans (List.Perm.swap _ _ _)⟩
def qy{P:Program}(w:World)(t ty e:TypeId)(i:TypeInfo)(ht:P.underlying t=some (.slice e))(hi:P.info? e=some i)
  (g off J a2:Nat) (a3:Array Value) (hg:w.heap[g]? = some (.cells a3 e (0,0)))
  (a:Addr) (m c:Nat) (A:χ) (T:A.length=m*i.size) (a4:∀j u,A[j]? = some u->w.cell? (a.add j)=some u) (I:∀u∈A,u.oneCell' = true)
  (a5:J+m<=a2) (a7:off+J*i.size+A.length<=a3.size) :
  (Builtin.append_ #[t,t] ty #[.slice (some ⟨g,off,none⟩) J a2,.slice (some a) m c]).run P w =
   .ok (.slice (some ⟨g,off,none⟩) (J+m) a2) (w.setRow g (a3.toList.take (off+J*i.size)++A++a3.toList.drop (off+J*i.size+A.length)).toArray):=by
 have hf:=run_firstCells_some (P:=P) w i.size m a m c A T a4;have a6:=run_storeCells_at P g (off+J*i.size) e A 0 a3 w hg D I;simp only[dw] at a6;simp[Builtin.append_,run_underlying ht,sizeOf,typeInfo,hi,Builtin.lenOf,a5,hf,Addr.add_lit,a6]
section ops
variable {P:Program}{N:Nat}{env:Env}{L:Ι}{ty:TypeId}
def Ef.j6{t:TypeId}{x y:Operand}{α:Type}{Η:α->χ}{ad b4:OA}{n c n2 c2 sz ζ bb cap:Nat}{G ys:List α}{z:χ}{R1:Ι}[ht:M9 P t ζ sz bb z][hp:U0 L ad α Η sz ζ cap G R1][hq:F5 R1 b4 α Η sz ys]
  (M:bG env x=some (.slice ad n c)) (U:bG env y=some (.slice b4 n2 c2)) (hn:n=G.length) (hc:c=cap) (d0:n2=ys.length) (I:∀e∈ys,∀u∈Η e,u.oneCell' = true) (hb:(G.length+ys.length)*bb<=140737488355328) (hm:G.length+ys.length<=9223372036854775807)
  : Ef P L env (.call { callee:=.builtin .append,args:=#[x,y],argTypes:=#[t,t] }) ty (λv Ε=>∃a3 A,v=.slice a3 (G++ys).length A/\Ε = Ou Η sz ζ a3 A (G++ys)::R1) :=
 Ef.val (λθ R a w ea s d4 pos af g=>by
  subst hn hc d0;have s1:Sat θ (Ou Η sz ζ ad c G::(R1++R)) w:=s.perm (hp.perm.append_right R);have a7:=s1.Wu;have hrd:=s1.Xy;obtain⟨g1,g2⟩:=hq.rd θ R w s1.tail;obtain⟨ii,z0,i1,i2,i3,i4,i5⟩:=ht.Γ
  have b7 : ∀u∈ys.flatMap Η,u.oneCell' = true:=λu hu=>by
   obtain⟨e,he,hu⟩:=List.mem_flatMap.1 hu;exact I e he u hu
  by_cases b6:ys=[]
  .subst b6;refine⟨.slice ad G.length c,w,_,?_,⟨ad,c,by simp,rfl⟩,by simpa using s1⟩;cases b4 with
   | none =>
    simp[execOp,resolve,invoke,builtin,aI ea M,aI ea U,Builtin.append_,run_underlying ht.under,sizeOf,typeInfo,i1,Builtin.lenOf,a7,Builtin.firstCells];cases ad<;>simp[storeCells]
   | some a2 =>
    have hf:=run_firstCells_some (P:=P) w ii.size 0 a2 0 c2 [] cg cg;simp[execOp,resolve,invoke,builtin,aI ea M,aI ea U,Builtin.append_,run_underlying ht.under,sizeOf,typeInfo,i1,Builtin.lenOf,a7,hf];cases ad<;>simp[storeCells]
  have e2:0<ys.length:=List.length_pos_iff.2 b6
  obtain⟨a2,rfl,g3⟩:∃a2,b4=some a2/\∀i v,(ys.flatMap Η)[i]? = some v->w.cell? (a2.add i)=some v:=by
   rcases g2 with g2|g2
   .exact iJ g2 b6
   .exact g2
  have b3:(ys.flatMap Η).length=ys.length*ii.size:=by rw[i4];exact dd g1
  obtain⟨p,Pk,Ov,⟨q1,q2⟩,s2⟩:=s1.VC;obtain⟨o1,o2,o3,o4⟩:=s2.Qw;rw[aA] at o2
  have a6:∀x∈G++ys,(Η x).length=sz:=λx M=>by
   rcases J4 M with M|M
   .exact o1 x (cj _ M)
   .exact g1 x M
  have a9:¬G.length+ys.length<=c->∃v' dH,(Builtin.append_ #[t,t] ty #[.slice ad G.length c,.slice (some a2) ys.length c2]).run P w=.ok v' dH/\∃a3 A,v' = .slice a3 (G++ys).length A/\Sat θ (μ Η sz ζ a3 A (G++ys)::(R1++R)) dH:=λJ=>by
   have d3:(G.flatMap Η).length=G.length*sz:=dd λx M=>o1 x (cj _ M);cases a5:ad with
   | none =>
    have d2:G=[]:=by
     rcases hrd.2 with h|⟨b,Q,_⟩
     .exact h
     .rw[a5] at Q;cases Q
    have b9:c=0:=by
     refine Classical.byContradiction λhc=>?_;have h9:=q1.resolve_left hc;rw[a5] at h9;rcases o4 with⟨_,h⟩|⟨gb,a4,rfl,_⟩
     .omega
     .unfold NJ at h9;split at h9<;>cases h9
    subst d2 b9;have s3:Sat θ (μ Η sz ζ none 0 ([]:List α)::(R1++R)) w:=Sat.d7 Η sz ζ s1.tail;obtain⟨v',dH,hr,Q,h3,_,h5⟩:=run_append_own_at (P:=P) w 0 t ty ζ ii z0 sz bb ht.under i1 i2 i4 i5 (by rw[<-ht.Tf,<-i3];simp) ht.pos _ _ _ (sS s3) a2 ys.length c2 (ys.flatMap Η) (dd g1) g3 b7 (by simp only[maxLen];simp at hm ⊢;omega) (by simpa using hb) (aD _);obtain⟨a3,A,rfl,s4⟩:=qE (ys:=ys) s3 g1 Q h3 (lX _ hr) h5;exact⟨_,dH,hr,a3,A,rfl,s4⟩
   | some b =>
    have Κ:∀j u,(G.flatMap Η)[j]? = some u->w.cell? (b.add j)=some u:=by
     rcases hrd.2 with h|⟨b',Q,h3⟩
     .rw[h];simp
     .rw[a5] at Q;cases Q;exact h3
    obtain⟨v',dH,b1,ho,hg⟩:=run_append_arg_grows (P:=P) (w:=w) t ty ζ ii z0 sz bb ht.under i1 i2 i4 i5 (by rw[<-ht.Tf,<-i3];simp) ht.pos b G.length c (G.flatMap Η) d3 Κ a2 ys.length c2 (ys.flatMap Η) (dd g1) g3 D (by simp only[maxLen];omega) hb;obtain⟨c6,ho⟩:=ho;rcases ho with⟨_,hn⟩|⟨fJ,A,b5,rfl,c4,c5,d5,c0,c1,b2⟩
    .omega
    have c3:=lX _ b1;have ok:θ.ok dH:=⟨by rw[hg.tape];exact s.1.tape,by rw[hg.os];exact s.1.os,by rw[hg.output];exact s.1.output,aO s.1.drawn c3⟩;have b8:(G++ys).length=G.length+ys.length:=by simp
    have s3:Sat θ (sh fJ (.cells b5 ζ (0,0))::(R1++R)) dH:=s1.tail.fresh ok c4 c5 (λk x hk=>by rw[hg.block k (Array.getElem?_eq_some_iff.1 hk).1 cg];exact hk);have s4:=Sat.Rm (cap:=A) s3 a6 D c0 c1 (by rw[b8,b2];simp);exact⟨_,dH,b1,some ⟨fJ,0,none⟩,A,by rw[b8],s4⟩
  by_cases J:G.length+ys.length<=c
  case neg =>
   obtain⟨v',dH,hr,a3,A,rfl,s4⟩:=a9 J;refine⟨_,dH,_,?_,⟨a3,A,rfl,rfl⟩,E.k9 θ R dH s4⟩;simp[execOp,resolve,invoke,builtin,aI ea M,aI ea U,hr]
  rcases o4 with⟨rfl,rfl⟩|⟨gb,a4,rfl,f1,f2,f3⟩
  .omega
  have d1:¬Ov=p.length:=D
  have a5:ad=some ⟨gb,p.length*sz,none⟩:=by
   rw[q1.resolve_left D];unfold NJ;rw[Ο d1];simp[Addr.add_lit]
  subst a5;have e0:(p.length+G.length+ys.length)*sz<=Ov*sz:=bS _ D;have d6:p.length*sz+G.length*sz+ys.length*sz=(p.length+G.length+ys.length)*sz:=by rw[dX,dX]
  have hr:=qy (P:=P) (ty:=ty) w t ζ ii ht.under i1 gb (p.length*sz) G.length c a4 f3.M8 a2 ys.length c2 (ys.flatMap Η) b3 g3 b7 J (by rw[i4,dd g1,f1];omega);have b0:(p.length*sz+G.length*sz)=(p++G).length*sz:=by rw[aA,dX]
  have s5:Sat θ (μ Η sz ζ (some ⟨gb,0,none⟩) Ov (p++(G++ys))::(R1++R)) (w.setRow gb (a4.toList.take (p.length*sz+G.length*ii.size)++ys.flatMap Η++a4.toList.drop (p.length*sz+G.length*ii.size+(ys.flatMap Η).length)).toArray):=by
   refine Sat.Rm (L:=R1++R) (Sat.update f3 ⟨s.1.tape,s.1.os,s.1.output,s.1.drawn⟩ (setRow_heap w gb _ _ ζ _ f3.M8) (λk x hk M=>by rw[setRow_other w gb k _ hk];exact M)) (λx M=>?_) ?_ o3 ?_ ?_
   .rcases J4 M with M|M
    .exact o1 x (cx _ M)
    .exact a6 x M
   .rw[aA,aA];omega
   .rw[i4];simp only[gJ,aA,aP,cB,dY,f1,dd g1];omega
   .rw[i4,b0];simp only[];rw[<-aF p G ys,dJ,<-f2]
    have e1:((p++G++ys).length*sz)=(a4.toList.take ((p++G).length*sz)++ys.flatMap Η).length:=by
     simp only[aA,aP,dY,f1,dd g1,dX];omega
    rw[e1,List.take_left]
  generalize (w.setRow gb (a4.toList.take (p.length*sz+G.length*ii.size)++ys.flatMap Η++a4.toList.drop (p.length*sz+G.length*ii.size+(ys.flatMap Η).length)).toArray)=W at hr s5;refine⟨.slice (some ⟨gb,p.length*sz,none⟩) (G.length+ys.length) c,W,_,?_,⟨some ⟨gb,p.length*sz,none⟩,c,by rw[aA],rfl⟩,Sat.d9 (L:=R1++R) (p:=p) (Pk:=some ⟨gb,0,none⟩) (Ov:=Ov) ⟨q1,q2⟩ s5⟩;simp[execOp,resolve,invoke,builtin,aI ea M,aI ea U,hr])
end ops
end Go.V
namespace Go.Proofs.YtlgpgjdggilkgaaGreatDoor
open Go.V
structure jA where
 D8:List (ω×Τ)
 O:List fK
 B:Int
 h1:List Int
instance:Inhabited Τ:=⟨L1 0 I4⟩
def jA.nd(W:jA)(i:Int):ω×Τ:=W.D8[i.toNat]!
def jA.send(W:jA)(i:Int)(Δ:L6):jA:={ W with D8:=W.D8.set i.toNat (Δ.2.1,Δ.2.2),O:=W.O++Δ.1 }
def mD(n B:Int):D7:=(jj n B none).m
noncomputable def Ox(F:Int)(o:Ph)(W:jA):(Int×Int)×jA :=
 if o.Ζ=0 then((fO o.d F (o.Α.map (·.m)) W.B (W.B+o.wait) (W.nd o.d).1 (W.nd o.d).2).1,{ W.send o.d (fO o.d F (o.Α.map (·.m)) W.B (W.B+o.wait) (W.nd o.d).1 (W.nd o.d).2).2 with h1:=if(fO o.d F (o.Α.map (·.m)) W.B (W.B+o.wait) (W.nd o.d).1 (W.nd o.d).2).1.2=0 then W.h1++[(fO o.d F (o.Α.map (·.m)) W.B (W.B+o.wait) (W.nd o.d).1 (W.nd o.d).2).1.1] else W.h1 })
 else if o.Ζ=4 then((0,0),{ W with B:=W.B+o.wait }.send o.d (cU o.d (W.B+o.wait) (W.nd o.d).1 (W.nd o.d).2))
 else if o.Ζ=5 then((0,0),{ W with D8:=W.D8.set o.d.toNat ((W.nd o.d).1,bN (W.nd o.d).2 (mD o.n W.B)) })
 else if W.O.length=0 then((0,0),W)
 else((0,0),(λ (m:fK) (W1:jA)=>if o.Ζ≠2/\0<=m.to/\m.to<F then W1.send m.to (dM m.to F m W.B (W.nd m.to).1 (W.nd m.to).2) else W1) W.O[(o.n % W.O.length).toNat]! (if o.Ζ≠3 then { W with O:=W.O.take (o.n % W.O.length).toNat++W.O.drop ((o.n % W.O.length).toNat+1) } else W))
structure Qq (d F:Int) (c b:Nat) (x:ω×Τ):Prop where
 a:PU I4 d F x.1 x.2
 bd:ey x.2+F0 x.1<=b
 ν:x.1.ν<=c
def Qq.mono{d F:Int}{c c' b b' : Nat}{x:ω×Τ}(h:Qq d F c b x)(I:c<=c')(Q:b<=b'):Qq d F c' b' x:=⟨h.a,aO h.bd Q,by have:=h.ν;omega⟩
structure F1 (F:Int) (c b ο an:Nat) (W:jA):Prop where
 MY:1<=F/\F<=12
 len:(W.D8.length:Int)=F
 nd:∀i:Nat,i<W.D8.length->Qq i F c b W.D8[i]!
 O:∀m∈W.O,S4 F m
 ml:W.O.length<=ο
 B:0<=W.B/\W.B<=an
 il:W.h1.length<=c
def F1.at{F:Int}{c b ο an:Nat}{W:jA}(h:F1 F c b ο an W){i:Int}(hi:0<=i/\i<F):Qq i F c b (W.nd i):=by
 have T:=h.len;have:=h.nd i.toNat D
 rw[show((i.toNat:Nat):Int)=i by omega] at this;exact this
theorem Lw{W:jA}{i j:Nat}{x:ω×Τ}(hj:j<W.D8.length):(W.D8.set i x)[j]! = if i=j then x else W.D8[j]!:=by
 grind
theorem F1.set{F:Int}{c b ο an:Nat}{W:jA}(h:F1 F c b ο an W){i:Int}(hi:0<=i/\i<F){x:ω×Τ}(M:Qq i F c b x):F1 F c b ο an { W with D8:=W.D8.set i.toNat x } :=
 ⟨h.MY,by dsimp only;rw[bU];exact h.len,λj hj=>by
  dsimp only at hj ⊢;rw[bU] at hj;rw[Lw hj];split
  .grind
  .exact h.nd j hj,h.O,h.ml,h.B,h.il⟩
def F1.mono{F:Int}{c b ο an c' b' M' Xz : Nat}{W:jA}(h:F1 F c b ο an W)(I:c<=c')(Q:b<=b')(h3:ο<=M')(h4:an<=Xz):F1 F c' b' M' Xz W :=
 ⟨h.MY,h.len,λi hi=>(h.nd i hi).mono I Q,h.O,aO h.ml h3,by have:=h.B;omega,aO h.il I⟩
theorem F1.send{F:Int}{c b ο an m:Nat}{W:jA}(h:F1 F c b ο an W){i:Int}(hi:0<=i/\i<F){Δ:L6}(hr:Qq i F c b (Δ.2.1,Δ.2.2))(hm:∀y∈Δ.1,S4 F y)(T:Δ.1.length<=m):F1 F c b (ο+m) an (W.send i Δ):=by
 have I:=h.set hi hr;refine⟨h.MY,I.len,I.nd,λy U=>?_,?_,h.B,h.il⟩
 .rcases J4 U with U|U
  .exact h.O y U
  grind
 .have:=h.ml
  show(W.O++Δ.1).length<=_;grind
def sX{n:Int}{ls:List MT}(h:∀x∈ls,TZ n x.m)(T:ls.length<=4):Nu (ls.map (·.m))<=12:=by
 unfold Nu;rw[cu];have:=jH (f:=(λl:x4=>l.am.length) ∘ λx:MT=>x.m) (C:=3) (l:=ls) λx M=>(h x M).len.2
 omega
def Qq.B7{d F:Int}{c b:Nat}{x:ω×Τ}(h:Qq d F c b x):x.2.υ.B7.length<=64:=by
 rw[h.a.hin.J1.υ];exact(show 4<=64 by decide)
theorem wZ{α:Type}{l:List α}{k:Nat}{x:α}(h:x∈l.take k++l.drop (k+1)):x∈l:=by
 grind
theorem Lv{d F:Int}{c b:Nat}{x:ω×Τ}(h:Qq d F c b x)(hb:b+24<=2000)(n B:Int):Qq d F c (b+24) (x.1,bN x.2 (mD n B)):=by
 have J:=h.bd;have A:C6 (mD n B).gN=1:=rfl;have hL:=UU.post h.a.hin.J1 (mD n B) D;have hk:=jp x.2 (mD n B);rw[A] at hk
 have a2:ey x.2<=ey (bN x.2 (mD n B))/\ey (bN x.2 (mD n B))<=ey x.2+1:=by
  rw[hk];split<;>omega
 exact⟨⟨⟨hL,⟨h.a.hin.T.1,by have:=h.a.hin.T.2;grind⟩,h.a.hin.nd,h.a.hin.Ot,h.a.hin.pts⟩,h.a.Ol,h.a.sv⟩,ah,h.ν⟩
theorem tD{F:Int}{c b ο an:Nat}{W:jA}{o:Ph}(h:F1 F c b ο an W)(ho:T0 F o)(hc:c<64)(hb:b+24<=2000):F1 F (c+1) (b+24) (ο+600000000) (an+7) (Ox F o W).2:=by
 have a4:b<=b+24:=D;have hN:=h.at ho.d;have hm:F1 F (c+1) (b+24) ο (an+7) W:=h.mono D a4 D D;unfold Ox;split
 .have ha:=sX ho.lg ho.len;have hr:=pU (ls:=o.Α.map (·.m)) (B:=W.B) (C7:=W.B+o.wait) ho.d h.MY.2 hN.a (by have:=hN.ν;omega) hN.B7 ha h.B.1 hN.bd hb;generalize fO o.d F (o.Α.map (·.m)) W.B (W.B+o.wait) (W.nd o.d).1 (W.nd o.d).2=R at *
  have J:Qq o.d F (c+1) (b+24) (R.2.2.1,R.2.2.2)/\(∀y∈R.2.1,S4 F y)/\R.2.1.length<=600000000:=by
   rcases hr with⟨I,Q⟩|⟨I,Q⟩
   .rw[I];exact⟨hN.mono D a4,λy U=>ah,aD _⟩
   .exact⟨⟨Q.nd,Q.bd,by have e:=Q.ν;have:=hN.ν;grind⟩,Q.O,aO Q.len D⟩
  have hs:=hm.send ho.d J.1 J.2.1 J.2.2;refine⟨hs.MY,hs.len,hs.nd,hs.O,hs.ml,hs.B,?_⟩;have a7:=h.il;grind
 split
 .rename_i h4;have hw:=ho.Tw h4;have b0:=ho.wait.2;have hr:=lm (B:=W.B+o.wait) ho.d h.MY.2 hN.a hN.bd D;have ht:=h.B;have a6:F1 F (c+1) (b+24) ο (an+7) { W with B:=W.B+o.wait }:=⟨hm.MY,hm.len,hm.nd,hm.O,hm.ml,ah,hm.il⟩;exact a6.send ho.d ⟨hr.nd,by have:=hr.bd;grind,by have e:=hr.ν;have:=hN.ν;grind⟩ hr.O hr.len
 split
 .exact(hm.mono D D D D).set ho.d ((Lv hN hb o.n W.B).mono D D)
 split
 .exact hm.mono D D D D
 .rename_i a9
  have a5:(o.n % W.O.length).toNat<W.O.length:=by
   have:=dA o.n (D:(0:Int)<W.O.length)
   omega
  have M:=h.O _ (bI a5);generalize W.O[(o.n % W.O.length).toNat]! = x at *
  have a3:F1 F (c+1) (b+24) ο (an+7) (if o.Ζ≠3 then { W with O:=W.O.take (o.n % W.O.length).toNat++W.O.drop ((o.n % W.O.length).toNat+1) } else W):=by
   split
   .refine⟨hm.MY,hm.len,hm.nd,λy U=>h.O y ah,?_,hm.B,hm.il⟩;have:=h.ml
    grind
   .exact hm
  generalize (if o.Ζ≠3 then({ W with O:=W.O.take (o.n % W.O.length).toNat++W.O.drop ((o.n % W.O.length).toNat+1) }:jA) else W)=W1 at *;dsimp only;split
  .rename_i a2;have A:=h.at a2.2;have hr:=oH (B:=W.B) a2.2 A.a M A.bd hb;exact(a3.send a2.2 ⟨hr.nd,hr.bd,by have e:=hr.ν;have:=A.ν;grind⟩ hr.O hr.len).mono D D D D
  .exact a3.mono D D D D
