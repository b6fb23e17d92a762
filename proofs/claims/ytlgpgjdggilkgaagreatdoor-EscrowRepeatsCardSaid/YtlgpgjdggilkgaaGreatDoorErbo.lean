/- Lemmas. -/
import Derived.Test.YtlgpgjdggilkgaaGreatDoorErbn
set_option linter.all false
set_option maxHeartbeats 8000000
namespace Go.Proofs.YtlgpgjdggilkgaaGreatDoor
section
open Go.V
def IV(to x n:Int)(cU:OA):E8:=Jz 0 0 [⟨⟨0,to,x,n,[]⟩,none,0⟩] cU 1
structure P9 (to x n:Int):Prop where
 to:1<=to/\to<=3
 aT:0<=x/\x<4
 n:1<=n/\n<40
def uz(to x n:Int)(cU:OA):MZ (IV to x n cU)/\(IV to x n cU).cM.length<=(IV to x n cU).fH:=by
 obtain⟨J,U,h3⟩:=pV (T:=(IV to x n cU).cM) (λm hm=>by rw[D6 hm]);exact⟨⟨.inl rfl,by show 1<=1000000;decide,by show id (-1);unfold id;decide,J,U,h3⟩,au _⟩
theorem re{k:Int}(h:¬(k=5\/k=7\/k=9)):gO k=false:=by unfold gO;exact bj h
def Gc{to x n now:Int}(h:P9 to x n)(hn:now<=0)(cU:OA):ge H9 now (IV to x n cU).m:=by
 obtain⟨⟨J,U⟩,⟨h3,h4⟩,h5,h6⟩:=h;refine⟨⟨by show(0:Int)<=0;decide,by show(0:Int)<=10;decide⟩,⟨by show(0:Int)<=0;decide,by show(0:Int)<=1073741824;decide⟩,⟨by show now<=0;exact hn,by show(0:Int)<=1099511627776;decide⟩,⟨by show 1<=1;decide,by show 1<=64;decide⟩,λm hm=>?_,?_⟩
 .rw[D6 hm];refine⟨?_,?_⟩
  .unfold pO;dsimp only[IV,Jz,G0.m];have e:H9.B5.length=4:=rfl;omega
  .rw[show gO (IV to x n cU).m.Κ=false from re (by show ¬((0:Int)=5\/(0:Int)=7\/(0:Int)=9);decide),Ω ac];rfl
 .unfold ol;have k4:¬(IV to x n cU).m.Κ=4:=λq=>iW (show(0:Int)=4 from q) ac;have r:¬(IV to x n cU).m.Κ=10:=λq=>iW (show(0:Int)=10 from q) ac;rw[Ω k4,Ω r];refine⟨λm hm=>?_,rfl,rfl⟩;rw[D6 hm];unfold iD;rw[μ (.inl rfl)]
theorem HR{k:Nat}{S:Χ}{to x n:Int}(hS:MG k S)(hk:k<=2000)(hc:S.ζ=H9)(hs:S.hx.length<65536)(hn:S.now<=0)(h:P9 to x n)(ht:S.gr x+n<=1099511627776)(cU:OA) :
  (E2 S (IV to x n cU).m).1=0/\(bP S (IV to x n cU).m).gr=K6 S.gr x (S.gr x+n)/\(bP S (IV to x n cU).m).now=0:=by
 have hp:ge S.ζ S.now (IV to x n cU).m:=by rw[hc];exact Gc h hn cU
 have I:¬to=0:=by have:=h.to;omega
 have r:¬4096<=(S.ο to x).length:=by have:=(hS.g.ο to x).len;omega
 have hm:∀(fl:List D9) (fL:Int->Bool) (s:C8),s.Κ=0->(ce S.kQ fl fL s (Jm S) ⟨0,to,x,n,[]⟩).1=0/\(ce S.kQ fl fL s (Jm S) ⟨0,to,x,n,[]⟩).2.gr=K6 S.gr x (S.gr x+n):=λfl fL s a2=>by
  have e1:JY S.kQ (fl++(Jm S).Ι) s (Jm S) ⟨0,to,x,n,[]⟩=0:=by
   unfold JY;rw[μ rfl,Ω B,Ω B]
  have e2:dj (Jm S) ⟨0,to,x,n,[]⟩=S.gr x+n:=by
   unfold dj;rw[μ rfl,Ω I];show S.gr x+n - 0=_;omega
  have e3:Jf fL (Jm S) ⟨0,to,x,n,[]⟩=S.ο:=by
   unfold Jf;rw[μ rfl];rfl
  unfold ce;rw[Ω B,e2,Ω B,Ω I,e3,Ω r];exact⟨rfl,rfl⟩
 have hg:E2 S (IV to x n cU).m=(0,(ce S.kQ S.Ι (fm S.ζ) ((IV to x n cU).m.at (cp S)) (Jm S) ⟨0,to,x,n,[]⟩).2):=by
  unfold E2;rw[Ω B,Ω ay];show cL _ _ _ _ _ [⟨0,to,x,n,[]⟩]=_;unfold cL;rw[μ (hm _ _ _ rfl).1];rfl
 have h0:(E2 S (IV to x n cU).m).1=0:=by rw[hg]
 have hq:bP S (IV to x n cU).m=eX S (IV to x n cU).m:=μ h0;refine⟨h0,?_,?_⟩
 .rw[hq];show(E2 S (IV to x n cU).m).2.gr=_;rw[hg];exact(hm _ _ _ rfl).2
 .rw[hq];unfold Χ.now eX;dsimp only;rw[List.getLast?_append];rfl
structure Lp (d:Int) (i:Nat) (S:Χ):Prop where
 Ik:J6 d H9 (gm S) S
 k:gm S<=i
 now:S.now=0
 gr:∀x,S.gr x<=40*(i:Int)
 st:S.hx.length<=i
 run:∃ss:List C8,(∀s∈ss,s.Κ=0/\∀m∈s.cM,m.Ψ=0/\1<=m.to/\m.to<=3)/\S=ss.foldl bP (I2 d H9)
def Lp.mono{d:Int}{i j:Nat}{S:Χ}(h:Lp d i S)(r:i<=j):Lp d j S:=⟨h.Ik,aQ h.k r,h.now,λx=>by have:=h.gr x;omega,aQ h.st r,h.run⟩
theorem Lp.post{d:Int}{i:Nat}{S:Χ}(h:Lp d i S)(hi:i<=1000){to x n:Int}(hp:P9 to x n)(cU:OA):(E2 S (IV to x n cU).m).1=0/\Lp d (i+1) (bP S (IV to x n cU).m):=by
 have K:=h.gr x;have hn:=hp.n;have hk:=h.k;have I:=h.st;obtain⟨J,U,h3⟩:=HR h.Ik.a B h.Ik.ζ B (by rw[h.now];omega) hp B cU;have r:C2 (IV to x n cU).m.cM=1:=rfl;have hL:=P7.post h.Ik (IV to x n cU).m B;refine⟨J,hL,?_,h3,λy=>?_,?_,?_⟩
 .rw[iC,μ J,r];omega
 .rw[U];unfold K6;have Z:=h.gr y;omega
 .grind [bP,eX]
 .obtain⟨ss,q1,q2⟩:=h.run;refine⟨ss++[(IV to x n cU).m],λs hs=>?_,ay⟩;rcases It hs with hs|hs
  .exact q1 s hs
  .rw[D6 hs];exact⟨rfl,λm hm=>by rw[D6 hm];exact⟨rfl,hp.to⟩⟩
def Lp.zero{d:Int}(h:0<=d/\d<12):Lp d 0 (I2 d H9) :=
 ⟨⟨.zero,Dj h H9,co 0,rfl,⟨λΘ hr=>iW hr aD,λΘ hr=>iW hr aD,λΘ hr=>iW hr aD⟩,rfl⟩,au _,rfl,λ_=>co 0,au _,[],λs hs=>iW hs aD,rfl⟩
attribute [local irreducible] Δ R GP Ο h2 GF GE O Ef A8 A CB GB V.Enters bF Ix
def EK{L:LH}(M:OA)(c:Nat)(i k:Int) :
  Λ Ε 67 #[ae M 0 c,E i,E k] L (C9 (E 0) L):=by
 refine Λ.bd ?_;by_cases h0:0<=i
 .have J:¬i<((0:Nat):Int):=B;refine Ih ?_;intros;exact KX.en ⟨rfl,rfl⟩
 .refine Ih ?_;intros;exact KX.en ⟨rfl,rfl⟩
theorem uy{L:LH}(M:OA)(m c:Nat)(l:List Int)[hrd:C7 L M Int (a0 .i64) 1 l](hm:m=l.length)(K:∀x∈l,id x) :
  Λ Ε 48 #[ae M m c] L (λv Y=>∃a7 a2 ss,v=ae a7 ss.length a2/\((ss.length<=8/\(l=[]->ss=[]))/\∀s∈ss,∃to x n cU,s=IV to x n cU/\P9 to x n)/\Y = Υ da 7 gJ a7 a2 ss::Ρ eJ ss::L):=by
 subst hm;refine Λ.bd ?_;refine Ih ?_;intros;refine Δ.loop (α:=Nat×OA×Nat×List E8) (λg=>(g.1<=8/\g.2.2.2.length<=g.1/\(l=[]->g.2.2.2=[]))/\∀s∈g.2.2.2,∃to x n cU,s=IV to x n cU/\P9 to x n) (λg=>[(0,ae M l.length c),(3,ae g.2.1 g.2.2.2.length g.2.2.1),(4,E (g.1:Int))]) (λg=>Υ da 7 gJ g.2.1 g.2.2.1 g.2.2.2::Ρ eJ g.2.2.2::L) (λg=>8 - g.1) (0,none,0,[]) ay aA ?_ ?_
 .dsimp only;refine(A.a8 eJ).trans ((A.c8 da 7 gJ).trans ?_);exact ag
 rintro⟨i,a6,I,zs⟩ ⟨⟨hi,b2,a5⟩,hz⟩;dsimp only at hi b2 a5 hz ⊢;by_cases b3:i<8
 case neg =>
  refine Ih ?_;intros;exact KX.a8 aw (A.refl _) ⟨a6,I,zs,rfl,⟨⟨B,a5⟩,hz⟩,rfl⟩
 have a9:(i:Int)<8:=B;by_cases a4:l=[]
 .subst a4;have b1:zs=[]:=a5 rfl;subst b1;rw[aX];refine Ih ?_;intros;refine R.cr (EK M c (2*(i:Int)) 40) ?_;refine Ih ?_;intros;refine⟨(i+1,a6,I,[]),⟨⟨B,aC _,λ_=>rfl⟩,hz⟩,B,?_,by exact ag⟩;dsimp only;rw[bC i];exact aA
 refine Ih ?_;intros;refine R.ca (jx M l.length c l rfl K (2*(i:Int)) 40 ac) ?_;rintro _ _⟨n,rfl,hn,rfl⟩;by_cases b4:n>0
 case neg =>
  refine Ih ?_;intros;refine⟨(i+1,a6,I,zs),⟨⟨B,ay,λq=>iW q a4⟩,hz⟩,B,?_,by exact ag⟩;dsimp only;rw[bC i];exact aA
 refine Ih ?_;intros;refine R.ca (jx M l.length c l rfl K (2*(i:Int)+1) 4 ac) ?_;rintro _ _⟨x,rfl,b0,rfl⟩;refine Ih ?_;intros;rename_i bm bs;refine R.ef (Ef.a8 (Β:=da) (e:=IV (1+(i:Int) % 3) x n (some ⟨bm,0,none⟩)) rfl rfl rfl rfl rfl aS (lr _) B B) ac ?_;rintro _ _⟨a3,r,rfl,rfl⟩;refine Ih ?_;intros;refine⟨(i+1,a3,r,zs++[IV (1+(i:Int) % 3) x n (some ⟨bm,0,none⟩)]),⟨⟨B,by simp;omega,λq=>iW q a4⟩,λs hs=>?_⟩,B,?_,?_⟩
 .rcases It hs with hs|hs
  .exact hz s hs
  .exact⟨_,_,_,_,D6 hs,⟨B,b0,B⟩⟩
 .dsimp only;rw[bC i];exact aA
 .dsimp only;refine(A.at (Μ:=obj bm JD [E 0,E (1+(i:Int) % 3),E x,E n,ae none 0 0]) (A.d9 (Β:=bJ) (sz:=5) (D:=(IV (1+(i:Int) % 3) x n (some ⟨bm,0,none⟩)).cM) (n:=1) rfl rfl (by intro y Z;rfl) ac)).trans ?_;refine A.JC.trans ?_;refine(A.f5 aI 3 none).trans ?_;refine(A.d7 (f:=G2) (x:=(⟨⟨0,1+(i:Int) % 3,x,n,[]⟩,none,0⟩:G0)) iN).trans ?_;refine A.trans (cq:=stM (IV (1+(i:Int) % 3) x n (some ⟨bm,0,none⟩))::IK (IV (1+(i:Int) % 3) x n (some ⟨bm,0,none⟩))::(Υ da 7 gJ a3 r (zs++[IV (1+(i:Int) % 3) x n (some ⟨bm,0,none⟩)])::Ρ eJ zs::L)) ?_ ?_
  .simp only[stM,IK,IV,Jz];exact ag
  refine(A.g8 (Ap _) (eg iN)).trans ?_;refine(A.d7 (f:=eJ) px).trans ?_;refine A.trans (cq:=Ρ eJ zs::Ρ eJ [IV (1+(i:Int) % 3) x n (some ⟨bm,0,none⟩)]::(Υ da 7 gJ a3 r (zs++[IV (1+(i:Int) % 3) x n (some ⟨bm,0,none⟩)])::L)) ag ?_;refine(A.c9 (f:=eJ) px).trans ?_;exact ag
end
section
open Go.V
abbrev Jw:Nat:=34
structure MK where
 Κ:Int
 d:Int
 n:Int
 Η:List IL
 ad:OA
 fe:Nat
 wait:Int
 deriving Inhabited
def dD(o:MK):LV:=[E o.Κ,E o.d,E o.n,ae o.ad o.Η.length o.fe,E o.wait]
def DJ(o:MK):∀u∈dD o,u.oneCell' = true:=by simp[dD,Value.oneCell']
def I6(o:MK):HP:=Nf (ε aW 5 o.ad o.Η) (Ρ gy o.Η)
def FJ(o:MK):JJ (I6 o):=JJ.and (cA _ _ _ _) (eg eD)
structure PD (n:Int) (o:MK):Prop where
 Κ:0<=o.Κ/\o.Κ<=5
 d:0<=o.d/\o.d<n
 num:0<=o.n/\o.n<1073741824
 wait : -1<=o.wait/\o.wait<=7
 Sm:o.Κ=4->0<=o.wait
 len:o.Η.length<=4
 lg:∀x∈o.Η,QC n x.m
attribute [local irreducible] Δ R GP Ο h2 GF GE O Ef A8 A CB GB V.Enters bF Ix
abbrev Bv:=Uz [.ev 17,.ev 18,.ev 19,.ev 20,.ev 21,.ev 22,.ev 23,.ev 24,.ev 25,.ev 26,.ef 27,.ef 28,.ev 29]
def SL{φ ψ:Prop}(k:ψ)(h:Hid ψ->φ:=by intro k;(repeat (first|refine aa ?_|intro sh|refine Δ.dr 41 5 Bv ?_));(repeat revert sh);exact Hid.out k):φ:=h ⟨k⟩
theorem BF{L:LH}(M:OA)(n c:Nat)(ls:List IL)[hrd:C7 L M IL aW 5 ls](hn:n=ls.length)(hl:ls.length<=1000) :
  Λ Ε 51 #[ae M n c] L (λv Y=>∃a3 r,v=ae a3 ls.length r/\Y = Υ aW 5 KT a3 r ls::L):=by
 subst hn;refine Λ.bd ?_;refine SL ?_;intros;refine Δ.loop (α:=Nat×OA×Nat) (λg=>g.1<=ls.length) (λg=>[(0,ae M ls.length c),(3,ae g.2.1 (ls.take g.1).length g.2.2),(4,E (g.1:Int))]) (λg=>Υ aW 5 KT g.2.1 g.2.2 (ls.take g.1)::L) (λg=>ls.length - g.1) (0,none,0) B aA ?_ ?_
 .dsimp only;rw[aU];exact A.c8 aW 5 KT
 rintro⟨i,b0,a2⟩ hi;dsimp only at hi ⊢;have b1:(ls.take i).length<=1000:=by rw[aK];omega
 by_cases a4:i<ls.length
 case neg =>
  have a7:ls.take i=ls:=ay;rw[a7];refine SL ?_;intros;exact KX.en ⟨b0,a2,rfl,rfl⟩
 have a6:(i:Int).toNat=i:=B;have a9:ls.take (i+1)=ls.take i++[ls[i]!]:=by rw[av a4,C5 a4]
 refine SL ?_;intros;rw[a6];refine Ο.ef (Ef.a8 (Β:=aW) (e:=ls[i]!) rfl rfl rfl rfl rfl aS (jZ _) B B) ac ?_;rintro _ _⟨a5,I,rfl,rfl⟩;rw[<-a9];refine SL ?_;intros;refine⟨(i+1,a5,I),by dsimp only;omega,B,?_,by exact ag⟩;dsimp only;rw[bC i];exact aA
def iz(n G:Int)(cU:OA):E8:=Jz 1 G [⟨⟨1+n % 3,0,n / 3 % 4,1+n / 12 % 5,[]⟩,none,0⟩] cU 1
def uG(n G:Int)(cU:OA):MZ (iz n G cU)/\(iz n G cU).cM.length<=(iz n G cU).fH:=by
 obtain⟨J,U,h3⟩:=pV (T:=(iz n G cU).cM) (λm hm=>by rw[D6 hm]);exact⟨⟨.inr (.inl rfl),by show 1<=1000000;decide,by show id (-1);unfold id;decide,J,U,h3⟩,au _⟩
def As{L:LH}(o:MK)(ho:0<=o.n/\o.n<1073741824)(G:Int) :
  Λ Ε 31 #[bh (dD o),E G] L (λv Y=>∃cU,v=bh (da (iz o.n G cU))/\Y = stM (iz o.n G cU)::IK (iz o.n G cU)::L):=by
 refine Λ.bd ?_;refine Ih ?_;intros;rename_i bo bs bm;refine KX.a8 (vs:=[bh (da (iz o.n G (some ⟨bm,0,none⟩)))]) (B6.cell rfl aS B6.nil) ?_ ⟨some ⟨bm,0,none⟩,rfl,rfl⟩;refine(A.at (Μ:=obj bm JD [E (1+o.n % 3),E 0,E (o.n / 3 % 4),E (1+o.n / 12 % 5),ae none 0 0]) (A.d9 (Β:=bJ) (sz:=5) (D:=(iz o.n G (some ⟨bm,0,none⟩)).cM) (n:=1) rfl rfl (by intro y Z;rfl) ac)).trans ?_;refine A.JC.trans ?_;refine(A.f5 aI 3 none).trans ?_;refine(A.d7 (f:=G2) (x:=(⟨⟨1+o.n % 3,0,o.n / 3 % 4,1+o.n / 12 % 5,[]⟩,none,0⟩:G0)) iN).trans ?_;simp only[stM,IK,iz,Jz];exact ag
def xA{L:LH}(n:Int)(hn:1<=n/\n<=12)(M:OA)(c:Nat)(l:List Int)[hrd:C7 L M Int (a0 .i64) 1 l](K:∀x∈l,id x)(b3:l.length<=9223372036854775807)(r:Int)(b5:0<=r/\r<=1000) :
  Λ Ε 12 #[E n,ae M l.length c,E r] L (λv Y=>∃a9 a4 os,v=ae a9 os.length a4/\((os.length:Int)<=r/\∀o∈os,PD n o)/\Y = Υ dD 5 Jw a9 a4 os::Ρ I6 os::L):=by
 refine Λ.bd ?_;refine Ih ?_;intros;refine Δ.loop (α:=Nat×OA×Nat×List MK) (λg=>((g.1:Int)<=r/\g.2.2.2.length=g.1)/\∀o∈g.2.2.2,PD n o) (λg=>[(0,E n),(1,ae M l.length c),(2,E r),(7,ae g.2.1 g.2.2.2.length g.2.2.1),(8,E (2*(g.1:Int)))]) (λg=>Υ dD 5 Jw g.2.1 g.2.2.1 g.2.2.2::Ρ I6 g.2.2.2::L) (λg=>r.toNat - g.1) (0,none,0,[]) ⟨⟨by dsimp only;omega,rfl⟩,λo h=>iW h aD⟩ aA ?_ ?_
 .dsimp only;refine(A.a8 I6).trans ((A.c8 dD 5 Jw).trans ?_);exact ag
 rintro⟨i,a6,a2,zs⟩ ⟨⟨hi,b1⟩,hz⟩;dsimp only at hi b1 hz ⊢;by_cases b4:2*(i:Int)+1<l.length
 case neg =>
  refine Ih ?_;intros;exact KX.a8 aw (A.refl _) ⟨a6,a2,zs,rfl,⟨B,hz⟩,rfl⟩
 by_cases b2:(zs.length:Int)<r
 case neg =>
  refine Ih ?_;intros;exact KX.a8 aw (A.refl _) ⟨a6,a2,zs,rfl,⟨B,hz⟩,rfl⟩
 refine Ih ?_;intros;refine R.ca (jj l[(2*(i:Int)).toNat]! 1073741824 (K _ (bA B)) ac ac) ?_;rintro _ _⟨q,rfl,hq,rfl⟩;refine Ih ?_;intros;refine R.ca (jj l[(2*(i:Int)+1).toNat]! 1073741824 (K _ (bA B)) ac ac) ?_;rintro _ _⟨m,rfl,hm,rfl⟩;have g1:=dz (q / 16) (B:n≠0);have g2:=cQ (q / 16) (B:0<n);repeat first|refine Δ.sm 8 ?_|refine cR ?_|intro
 rename_i b0;refine Δ.c7 (α:=MK) (λo=>PD n o) (λ_=>[(0,E n),(1,ae M l.length c),(2,E r),(7,ae a6 zs.length a2),(8,E (2*(i:Int))),(11,al b0)]) (λo=>obj b0 Jw (dD o)::ε aW 5 o.ad o.Η::Ρ gy o.Η::Υ dD 5 Jw a6 a2 zs::Ρ I6 zs::L) ?_ ?_
 .have hd:q % 16=0\/q % 16=1\/q % 16=2\/q % 16=3\/q % 16=4\/q % 16=5\/q % 16=6\/q % 16=7\/q % 16=8\/9<=q % 16:=B;simp only[dD];rcases hd with hd|hd|hd|hd|hd|hd|hd|hd|hd|hd
  .refine Ih ?_;intros;refine R.ca (ns n hn M c l K (2*(i:Int)) B) ?_;rintro _ _⟨ad,fe,ls,rfl,⟨a5,I⟩,rfl⟩;refine Ih ?_;intros;refine⟨⟨0,q / 16 % n,m,ls,ad,fe,m % 9 - 1⟩,⟨by dsimp only;omega,⟨g1,g2⟩,hm,by dsimp only;omega,λq=>by dsimp only at q;omega,by dsimp only;omega,I⟩,aA,?_⟩;refine(A.at (Μ:=Υ aW 5 jt ad fe ls) A.JC).trans ?_;exact ag
  .refine Ih ?_;intros;refine R.ca (ns n hn M c l K (2*(i:Int)) B) ?_;rintro _ _⟨ad,fe,ls,rfl,⟨a5,I⟩,rfl⟩;refine Ih ?_;intros;refine⟨⟨0,q / 16 % n,m,ls,ad,fe,m % 9 - 1⟩,⟨by dsimp only;omega,⟨g1,g2⟩,hm,by dsimp only;omega,λq=>by dsimp only at q;omega,by dsimp only;omega,I⟩,aA,?_⟩;refine(A.at (Μ:=Υ aW 5 jt ad fe ls) A.JC).trans ?_;exact ag
  .refine Ih ?_;intros;refine R.ca (ns n hn M c l K (2*(i:Int)) B) ?_;rintro _ _⟨ad,fe,ls,rfl,⟨a5,I⟩,rfl⟩;refine Ih ?_;intros;refine⟨⟨0,q / 16 % n,m,ls,ad,fe,m % 9 - 1⟩,⟨by dsimp only;omega,⟨g1,g2⟩,hm,by dsimp only;omega,λq=>by dsimp only at q;omega,by dsimp only;omega,I⟩,aA,?_⟩;refine(A.at (Μ:=Υ aW 5 jt ad fe ls) A.JC).trans ?_;exact ag
  .refine Ih ?_;intros;refine⟨⟨4,q / 16 % n,m,[],none,0,(m % 4)⟩,⟨by dsimp only;omega,⟨g1,g2⟩,hm,by dsimp only;omega,λq=>by dsimp only;omega,aC _,λx h=>iW h aD⟩,aA,?_⟩;refine(A.a8 gy).trans ((A.f5 aW 5 none).trans ?_);exact ag
  .refine Ih ?_;intros;refine⟨⟨4,q / 16 % n,m,[],none,0,(m % 4)⟩,⟨by dsimp only;omega,⟨g1,g2⟩,hm,by dsimp only;omega,λq=>by dsimp only;omega,aC _,λx h=>iW h aD⟩,aA,?_⟩;refine(A.a8 gy).trans ((A.f5 aW 5 none).trans ?_);exact ag
  .refine Ih ?_;intros;refine⟨⟨2,q / 16 % n,m,[],none,0,0⟩,⟨by dsimp only;omega,⟨g1,g2⟩,hm,by dsimp only;omega,λq=>by dsimp only at q;omega,aC _,λx h=>iW h aD⟩,aA,?_⟩;refine(A.a8 gy).trans ((A.f5 aW 5 none).trans ?_);exact ag
  .refine Ih ?_;intros;refine⟨⟨3,q / 16 % n,m,[],none,0,0⟩,⟨by dsimp only;omega,⟨g1,g2⟩,hm,by dsimp only;omega,λq=>by dsimp only at q;omega,aC _,λx h=>iW h aD⟩,aA,?_⟩;refine(A.a8 gy).trans ((A.f5 aW 5 none).trans ?_);exact ag
  .refine Ih ?_;intros;refine⟨⟨3,q / 16 % n,m,[],none,0,0⟩,⟨by dsimp only;omega,⟨g1,g2⟩,hm,by dsimp only;omega,λq=>by dsimp only at q;omega,aC _,λx h=>iW h aD⟩,aA,?_⟩;refine(A.a8 gy).trans ((A.f5 aW 5 none).trans ?_);exact ag
  .refine Ih ?_;intros;refine⟨⟨5,q / 16 % n,m,[],none,0,0⟩,⟨by dsimp only;omega,⟨g1,g2⟩,hm,by dsimp only;omega,λq=>by dsimp only at q;omega,aC _,λx h=>iW h aD⟩,aA,?_⟩;refine(A.a8 gy).trans ((A.f5 aW 5 none).trans ?_);exact ag
  .refine Ih ?_;intros;refine⟨⟨1,q / 16 % n,m,[],none,0,0⟩,⟨by dsimp only;omega,⟨g1,g2⟩,hm,by dsimp only;omega,λq=>by dsimp only at q;omega,aC _,λx h=>iW h aD⟩,aA,?_⟩;refine(A.a8 gy).trans ((A.f5 aW 5 none).trans ?_);exact ag
 rintro o ho;simp only[dD];refine Ih ?_;intros;refine R.ef (Ef.a8 (Β:=dD) (e:=o) rfl rfl rfl rfl rfl aS (DJ _) B B) ac ?_;rintro _ _⟨a7,a3,rfl,rfl⟩;refine Ih ?_;intros;refine⟨(i+1,a7,a3,zs++[o]),⟨⟨by dsimp only;omega,by simp[b1]⟩,λx K=>?_⟩,by dsimp only;omega,?_,?_⟩
 .rcases It K with K|K
  .exact hz x K
  .rw[D6 K];exact ho
 .dsimp only;rw[show 2*((i+1:Nat):Int)=2*(i:Int)+2 by omega];exact aA
 .dsimp only;refine A.trans (cq:=ε aW 5 o.ad o.Η::Ρ gy o.Η::(Υ dD 5 Jw a7 a3 (zs++[o])::Ρ I6 zs::L)) ag ?_;refine(A.g8 (cA _ _ _ _) (eg eD)).trans ?_;refine(A.d7 (f:=I6) (x:=o) FJ).trans ?_;refine A.trans (cq:=Ρ I6 zs::Ρ I6 [o]::(Υ dD 5 Jw a7 a3 (zs++[o])::L)) ag ?_;refine(A.c9 (f:=I6) FJ).trans ?_;exact ag
end
section
open Go.V
structure D2 where
 IW:List (eu×Χ)
 T:List xs
 G:Int
 B9:List Int
instance:Inhabited Χ:=⟨I2 0 H9⟩
def D2.nd(W:D2)(i:Int):eu×Χ:=W.IW[i.toNat]!
def D2.send(W:D2)(i:Int)(Θ:Ja):D2:={ W with IW:=W.IW.set i.toNat (Θ.2.1,Θ.2.2),T:=W.T++Θ.1 }
def kq(n G:Int):C8:=(iz n G none).m
noncomputable def NB(Q:Int)(o:MK)(W:D2):(Int×Int)×D2 :=
 if o.Κ=0 then((fg o.d Q (o.Η.map (·.m)) W.G (W.G+o.wait) (W.nd o.d).1 (W.nd o.d).2).1,{ W.send o.d (fg o.d Q (o.Η.map (·.m)) W.G (W.G+o.wait) (W.nd o.d).1 (W.nd o.d).2).2 with B9:=if(fg o.d Q (o.Η.map (·.m)) W.G (W.G+o.wait) (W.nd o.d).1 (W.nd o.d).2).1.2=0 then W.B9++[(fg o.d Q (o.Η.map (·.m)) W.G (W.G+o.wait) (W.nd o.d).1 (W.nd o.d).2).1.1] else W.B9 })
 else if o.Κ=4 then((0,0),{ W with G:=W.G+o.wait }.send o.d (dK o.d (W.G+o.wait) (W.nd o.d).1 (W.nd o.d).2))
 else if o.Κ=5 then((0,0),{ W with IW:=W.IW.set o.d.toNat ((W.nd o.d).1,bP (W.nd o.d).2 (kq o.n W.G)) })
 else if W.T.length=0 then((0,0),W)
 else((0,0),(λ (m:xs) (W1:D2)=>if o.Κ≠2/\0<=m.to/\m.to<Q then W1.send m.to (cS m.to Q m W.G (W.nd m.to).1 (W.nd m.to).2) else W1) W.T[(o.n % W.T.length).toNat]! (if o.Κ≠3 then { W with T:=W.T.take (o.n % W.T.length).toNat++W.T.drop ((o.n % W.T.length).toNat+1) } else W))
structure KM (d Q:Int) (c b:Nat) (x:eu×Χ):Prop where
 a:Lf H9 d Q x.1 x.2
 bd:gm x.2+E9 x.1<=b
 ω:x.1.ω<=c
def KM.mono{d Q:Int}{c c' b b' : Nat}{x:eu×Χ}(h:KM d Q c b x)(J:c<=c')(U:b<=b'):KM d Q c' b' x:=⟨h.a,aQ h.bd U,by have:=h.ω;omega⟩
structure IX (Q:Int) (c b ξ bU:Nat) (W:D2):Prop where
 K4:1<=Q/\Q<=12
 len:(W.IW.length:Int)=Q
 nd:∀i:Nat,i<W.IW.length->KM i Q c b W.IW[i]!
 T:∀m∈W.T,NA Q m
 ml:W.T.length<=ξ
 G:0<=W.G/\W.G<=bU
 il:W.B9.length<=c
def IX.at{Q:Int}{c b ξ bU:Nat}{W:D2}(h:IX Q c b ξ bU W){i:Int}(hi:0<=i/\i<Q):KM i Q c b (W.nd i):=by
 have hl:=h.len;have:=h.nd i.toNat B
 rw[show((i.toNat:Nat):Int)=i by omega] at this;exact this
theorem rh{W:D2}{i j:Nat}{x:eu×Χ}(hj:j<W.IW.length):(W.IW.set i x)[j]! = if i=j then x else W.IW[j]!:=by
 grind
theorem IX.set{Q:Int}{c b ξ bU:Nat}{W:D2}(h:IX Q c b ξ bU W){i:Int}(hi:0<=i/\i<Q){x:eu×Χ}(K:KM i Q c b x):IX Q c b ξ bU { W with IW:=W.IW.set i.toNat x } :=
 ⟨h.K4,by dsimp only;rw[bq];exact h.len,λj hj=>by
  dsimp only at hj ⊢;rw[bq] at hj;rw[rh hj];split
  .grind
  .exact h.nd j hj,h.T,h.ml,h.G,h.il⟩
def IX.mono{Q:Int}{c b ξ bU c' b' M' Sn : Nat}{W:D2}(h:IX Q c b ξ bU W)(J:c<=c')(U:b<=b')(h3:ξ<=M')(h4:bU<=Sn):IX Q c' b' M' Sn W :=
 ⟨h.K4,h.len,λi hi=>(h.nd i hi).mono J U,h.T,aQ h.ml h3,by have:=h.G;omega,aQ h.il J⟩
theorem IX.send{Q:Int}{c b ξ bU m:Nat}{W:D2}(h:IX Q c b ξ bU W){i:Int}(hi:0<=i/\i<Q){Θ:Ja}(hr:KM i Q c b (Θ.2.1,Θ.2.2))(hm:∀y∈Θ.1,NA Q y)(hl:Θ.1.length<=m):IX Q c b (ξ+m) bU (W.send i Θ):=by
 have J:=h.set hi hr;refine⟨h.K4,J.len,J.nd,λy Z=>?_,?_,h.G,h.il⟩
 .rcases It Z with Z|Z
  .exact h.T y Z
  grind
 .have:=h.ml
  show(W.T++Θ.1).length<=_;grind
def vQ{n:Int}{ls:List IL}(h:∀x∈ls,QC n x.m)(hl:ls.length<=4):Kh (ls.map (·.m))<=12:=by
 unfold Kh;rw[cO];have:=jK (f:=(λl:G7=>l.am.length) ∘ λx:IL=>x.m) (C:=3) (l:=ls) λx K=>(h x K).len.2
 omega
def KM.B5{d Q:Int}{c b:Nat}{x:eu×Χ}(h:KM d Q c b x):x.2.ζ.B5.length<=64:=by
 rw[h.a.hin.Ik.ζ];exact(show 4<=64 by decide)
theorem tL{α:Type}{l:List α}{k:Nat}{x:α}(h:x∈l.take k++l.drop (k+1)):x∈l:=by
 grind
theorem Hj{d Q:Int}{c b:Nat}{x:eu×Χ}(h:KM d Q c b x)(hb:b+24<=2000)(n G:Int):KM d Q c (b+24) (x.1,bP x.2 (kq n G)):=by
 have I:=h.bd;have r:C2 (kq n G).cM=1:=rfl;have hL:=P7.post h.a.hin.Ik (kq n G) B;have hk:=iC x.2 (kq n G);rw[r] at hk
 have a2:gm x.2<=gm (bP x.2 (kq n G))/\gm (bP x.2 (kq n G))<=gm x.2+1:=by
  rw[hk];split<;>omega
 exact⟨⟨⟨hL,⟨h.a.hin.hl.1,by have:=h.a.hin.hl.2;grind⟩,h.a.hin.nd,h.a.hin.No,h.a.hin.pts⟩,h.a.KA,h.a.sv⟩,ay,h.ω⟩
theorem Fr{Q:Int}{c b ξ bU:Nat}{W:D2}{o:MK}(h:IX Q c b ξ bU W)(ho:PD Q o)(hc:c<64)(hb:b+24<=2000):IX Q (c+1) (b+24) (ξ+600000000) (bU+7) (NB Q o W).2:=by
 have a4:b<=b+24:=B;have hN:=h.at ho.d;have hm:IX Q (c+1) (b+24) ξ (bU+7) W:=h.mono B a4 B B;unfold NB;split
 .have ha:=vQ ho.lg ho.len;have hr:=qO (ls:=o.Η.map (·.m)) (G:=W.G) (Ev:=W.G+o.wait) ho.d h.K4.2 hN.a (by have:=hN.ω;omega) hN.B5 ha h.G.1 hN.bd hb;generalize fg o.d Q (o.Η.map (·.m)) W.G (W.G+o.wait) (W.nd o.d).1 (W.nd o.d).2=Α at *
  have I:KM o.d Q (c+1) (b+24) (Α.2.2.1,Α.2.2.2)/\(∀y∈Α.2.1,NA Q y)/\Α.2.1.length<=600000000:=by
   rcases hr with⟨J,U⟩|⟨J,U⟩
   .rw[J];exact⟨hN.mono B a4,λy Z=>ay,aC _⟩
   .exact⟨⟨U.nd,U.bd,by have e:=U.ω;have:=hN.ω;grind⟩,U.T,aQ U.len B⟩
  have hs:=hm.send ho.d I.1 I.2.1 I.2.2;refine⟨hs.K4,hs.len,hs.nd,hs.T,hs.ml,hs.G,?_⟩;have a7:=h.il;grind
 split
 .rename_i h4;have hw:=ho.Sm h4;have b0:=ho.wait.2;have hr:=lv (G:=W.G+o.wait) ho.d h.K4.2 hN.a hN.bd B;have ht:=h.G;have a6:IX Q (c+1) (b+24) ξ (bU+7) { W with G:=W.G+o.wait }:=⟨hm.K4,hm.len,hm.nd,hm.T,hm.ml,ay,hm.il⟩;exact a6.send ho.d ⟨hr.nd,by have:=hr.bd;grind,by have e:=hr.ω;have:=hN.ω;grind⟩ hr.T hr.len
 split
 .exact(hm.mono B B B B).set ho.d ((Hj hN hb o.n W.G).mono B B)
 split
 .exact hm.mono B B B B
 .rename_i a9
  have a5:(o.n % W.T.length).toNat<W.T.length:=by
   have:=cQ o.n (B:(0:Int)<W.T.length)
   omega
  have K:=h.T _ (bA a5);generalize W.T[(o.n % W.T.length).toNat]! = x at *
  have a3:IX Q (c+1) (b+24) ξ (bU+7) (if o.Κ≠3 then { W with T:=W.T.take (o.n % W.T.length).toNat++W.T.drop ((o.n % W.T.length).toNat+1) } else W):=by
   split
   .refine⟨hm.K4,hm.len,hm.nd,λy Z=>h.T y ay,?_,hm.G,hm.il⟩;have:=h.ml
    grind
   .exact hm
  generalize (if o.Κ≠3 then({ W with T:=W.T.take (o.n % W.T.length).toNat++W.T.drop ((o.n % W.T.length).toNat+1) }:D2) else W)=W1 at *;dsimp only;split
  .rename_i a2;have r:=h.at a2.2;have hr:=ly (G:=W.G) a2.2 r.a K r.bd hb;exact(a3.send a2.2 ⟨hr.nd,hr.bd,by have e:=hr.ω;have:=r.ω;grind⟩ hr.T hr.len).mono B B B B
  .exact a3.mono B B B B
