/- Lemmas. -/
import Derived.Test.YtlgpgjdggilkgaaGreatDoorErbq
set_option linter.all false
set_option maxHeartbeats 16000000
namespace Go.Proofs.YtlgpgjdggilkgaaGreatDoor
section
open Go.V
theorem Ee{Q:Int}{c b ξ bU:Nat}{W:D2}(h:IX Q c b ξ bU W)(hb:b<=2000){k:Int}(hk:0<=k/\k<Q):IX Q c b (ξ+600000000) bU (Lq W k):=by
 have hN:=h.at hk;have hr:=lv (G:=W.G) hk h.K4.2 hN.a hN.bd hb;exact h.send hk ⟨hr.nd,hr.bd,by have e:=hr.ω;have:=hN.ω;grind⟩ hr.T hr.len
theorem DM{Q:Int}{c b ξ bU:Nat}{W:D2}(h:IX Q c b ξ bU W)(hb:b+24<=2000):IX Q c (b+24) (ξ+3300) bU (J3 Q W):=by
 unfold J3;cases hm:W.T with
 | nil=>exact h.mono B B B B
 | cons m T =>
  have K:=h.T m ay;have hN:=h.at K.x.to;have hr:=ly (G:=W.G) K.x.to hN.a K hN.bd hb
  have J:IX Q c (b+24) ξ bU { W with T:=T } :=
   have U:=h.mono (au c) (B:b<=b+24) (au ξ) (au bU)
   ⟨U.K4,U.len,U.nd,λy Z=>h.T y ay,by have:=h.ml;grind,U.G,U.il⟩
  dsimp only;rw[μ K.x.to];exact J.send K.x.to ⟨hr.nd,hr.bd,by have e:=hr.ω;have:=hN.ω;grind⟩ hr.T hr.len
def mB{Q:Int}{c b ξ bU:Nat}{W:D2}(h:IX Q c b ξ bU W):∀k:Nat,b+24*k<=2000->IX Q c (b+24*k) (ξ+3300*k) bU (Lr Q W k)
 | 0,_=>h
 | k+1,hb=>(DM (mB h k B) B).mono (au _) B B (au _)
def mE{Q:Int}{c b ξ bU:Nat}{W:D2}(h:IX Q c b ξ bU W)(hb:b<=2000):∀k:Nat,(k:Int)<=Q->IX Q c b (ξ+600000000*k) bU (Me W k)
 | 0,_=>h
 | k+1,hk=>(Ee (mE h hb k B) hb ⟨B,B⟩).mono (au _) (au _) B (au _)
def zp{Q:Int}{c b ξ bU n:Nat}{W:D2}(h:IX Q c b ξ bU W)(hc:c<=63)(hb:b+24*n<=1900)(hn:(Lr Q (Me W Q.toNat) n).T=[]):rO Q (ξ+7300000000+3300*n) bU W:=by
 have hr:=h.K4;refine⟨λk hk=>(mE h B k hk).mono hc B B B,λk hk=>?_⟩;have J:=mE h B Q.toNat B;by_cases r:k<=n
 .exact(mB J k B).mono hc B B B
 .rw[lO hn k B];exact(mB J n B).mono hc B B B
theorem DL{Q:Int}{W:D2}{m:xs}{T:List xs}{Α:Ja}(h:W.T=m::T)(r:0<=m.to/\m.to<Q)(hr:cS m.to Q m W.G (W.nd m.to).1 (W.nd m.to).2=Α):J3 Q W=({ W with T:=T }:D2).send m.to Α:=by
 grind [J3]
def wl(na:eu)(xa:Χ)(nb:eu)(xb:Χ)(T:List xs):D2:=⟨[(na,xa),(nb,xb)],T,0,[]⟩
def FB{na r nb:eu}{xa I xb:Χ}{T out:List xs}(hr:dK 0 0 na xa=(out,r,I)):Lq (wl na xa nb xb T) 0=wl r I nb xb (T++out):=by
 unfold Lq;rw[show dK 0 (wl na xa nb xb T).G ((wl na xa nb xb T).nd 0).1 ((wl na xa nb xb T).nd 0).2=_ from hr];rfl
def FA{na r nb:eu}{xa I xb:Χ}{T out:List xs}(hr:dK 1 0 nb xb=(out,r,I)):Lq (wl na xa nb xb T) 1=wl na xa r I (T++out):=by
 unfold Lq;rw[show dK 1 (wl na xa nb xb T).G ((wl na xa nb xb T).nd 1).1 ((wl na xa nb xb T).nd 1).2=_ from hr];rfl
def Qb{na r nb:eu}{xa I xb:Χ}{m:xs}{T out:List xs}(a2:m.to=0)(hr:cS 0 2 m 0 na xa=(out,r,I)):J3 2 (wl na xa nb xb (m::T))=wl r I nb xb (T++out):=by
 have h:=DL (Q:=2) (W:=wl na xa nb xb (m::T)) (m:=m) (T:=T) (Α:=(out,r,I)) rfl B (by rw[a2];exact hr);rw[h,a2];rfl
def Qc{na r nb:eu}{xa I xb:Χ}{m:xs}{T out:List xs}(a2:m.to=1)(hr:cS 1 2 m 0 nb xb=(out,r,I)):J3 2 (wl na xa nb xb (m::T))=wl na xa r I (T++out):=by
 have h:=DL (Q:=2) (W:=wl na xa nb xb (m::T)) (m:=m) (T:=T) (Α:=(out,r,I)) rfl B (by rw[a2];exact hr);rw[h,a2];rfl
def um:Me (wl JB IA Ke Jd [Je]) 2=wl JB IA Ke Jd [Je,Je]:=by
 have J:Lq (wl JB IA Ke Jd [Je]) 0=wl JB IA Ke Jd [Je,Je]:=FB HM;have U:Lq (wl JB IA Ke Jd [Je,Je]) 1=wl JB IA Ke Jd [Je,Je]:=FA HN;show Lq (Lq (wl JB IA Ke Jd [Je]) 0) 1=_;rw[J,U]
def zh:Me (wl Jp IS Kj IB []) 2=wl Jp IS Kj IB []:=by
 have J:Lq (wl Jp IS Kj IB []) 0=wl Jp IS Kj IB []:=FB HL;have U:Lq (wl Jp IS Kj IB []) 1=wl Jp IS Kj IB []:=FA HK;show Lq (Lq (wl Jp IS Kj IB []) 0) 1=_;rw[J,U]
theorem qR:Lr 2 (wl JB IA Ke Jd [Je,Je]) 10=wl Jp IS Kj IB []:=by
 have e1:J3 2 (wl JB IA Ke Jd [Je,Je])=wl JB IA Jq Ls [Je,Lt]:=Qc rfl T4;have e2:J3 2 (wl JB IA Jq Ls [Je,Lt])=wl JB IA Jq Ls [Lt,Lt]:=Qc rfl T5;have e3:J3 2 (wl JB IA Jq Ls [Lt,Lt])=wl M5 KE Jq Ls [Lt,Oo,NG]:=Qb rfl T8;have e4:J3 2 (wl M5 KE Jq Ls [Lt,Oo,NG])=wl M5 KE Jq Ls [Oo,NG]:=Qb rfl T9;have e5:J3 2 (wl M5 KE Jq Ls [Oo,NG])=wl M5 KE QG NC [NG,PG]:=Qc rfl Ua;have e6:J3 2 (wl M5 KE QG NC [NG,PG])=wl M5 KE NF IB [PG,PI,Oq]:=Qc rfl Ub;have e7:J3 2 (wl M5 KE NF IB [PG,PI,Oq])=wl QE KE NF IB [PI,Oq]:=Qb rfl Uc;have e8:J3 2 (wl QE KE NF IB [PI,Oq])=wl QF IS NF IB [Oq,PJ]:=Qb rfl Ud;have e9:J3 2 (wl QF IS NF IB [Oq,PJ])=wl Jp IS NF IB [PJ]:=Qb rfl Ue;have r:J3 2 (wl Jp IS NF IB [PJ])=wl Jp IS Kj IB []:=Qc rfl Uf;show J3 2 (J3 2 (J3 2 (J3 2 (J3 2 (J3 2 (J3 2 (J3 2 (J3 2 (J3 2 (wl JB IA Ke Jd [Je,Je]))))))))))=_;grind
def Rr:ip 2 (wl JB IA Ke Jd [Je]) 1=wl Jp IS Kj IB []/\ip 2 (wl JB IA Ke Jd [Je]) 2=wl Jp IS Kj IB []:=by
 have J:ip 2 (wl JB IA Ke Jd [Je]) 1=wl Jp IS Kj IB []:=by
  show Lr 2 (Me (wl JB IA Ke Jd [Je]) 2) 400=_;rw[um,lO (j:=10) (by rw[qR];rfl) 400 ac,qR]
 refine⟨J,?_⟩;show Lr 2 (Me (ip 2 (wl JB IA Ke Jd [Je]) 1) 2) 400=_;rw[J,zh,lO (j:=0) rfl 400 ac];rfl
def HJ:jc 2 4 xl:=by
 refine⟨by decide,λl hl=>?_⟩;rcases Jr hl with rfl|hl
 .exact⟨by decide,by decide,⟨by decide,by decide⟩,⟨by decide,by decide⟩,by decide,⟨⟨by decide,by decide,by decide,by decide⟩,by decide,trivial⟩⟩
 .rw[D6 hl];exact⟨by decide,by decide,⟨by decide,by decide⟩,⟨by decide,by decide⟩,by decide,⟨⟨by decide,by decide,by decide,by decide⟩,by decide,trivial⟩⟩
def Cq:fg 0 2 xl 0 9 Ke Lh=((0,0),[Je],JB,IA):=by
 unfold fg;rw[Ω (by rintro (h|h);exact B;exact h HJ),Ω ac];exact Prod.ext rfl T6
def Qd:(E2 (I2 0 H9) (I9 0 0 [⟨0,1,0,5,[]⟩])).1=0/\bP (I2 0 H9) (I9 0 0 [⟨0,1,0,5,[]⟩])=Lh/\Lp 0 1 Lh:=by
 obtain⟨J,U⟩:=(Lp.zero (d:=0) ac).post ac (to:=1) (x:=0) (n:=5) ⟨by decide,by decide,by decide⟩ none;have h3:bP (I2 0 H9) (I9 0 0 [⟨0,1,0,5,[]⟩])=Lh:=(oS (S:=I2 0 H9) (s:=I9 0 0 [⟨0,1,0,5,[]⟩]) ac (lZ ac ac ac ac ac (po ac rfl) ac) rfl).2;exact⟨J,h3,h3▸U⟩
def Rs:(E2 (I2 1 H9) (I9 0 0 [⟨0,2,1,3,[]⟩])).1=0/\bP (I2 1 H9) (I9 0 0 [⟨0,2,1,3,[]⟩])=Jd/\Lp 1 1 Jd:=by
 obtain⟨J,U⟩:=(Lp.zero (d:=1) ac).post ac (to:=2) (x:=1) (n:=3) ⟨by decide,by decide,by decide⟩ none;have h3:bP (I2 1 H9) (I9 0 0 [⟨0,2,1,3,[]⟩])=Jd:=(oS (S:=I2 1 H9) (s:=I9 0 0 [⟨0,2,1,3,[]⟩]) ac (lZ ac ac ac ac ac (po ac rfl) ac) rfl).2;exact⟨J,h3,h3▸U⟩
theorem Qe:IX 2 63 40 1 0 (wl JB IA Ke Jd [Je]):=by
 have hb:=qO (ζ:=H9) (d:=0) (Q:=2) (G:=0) (Ev:=9) (ls:=xl) (N:=Ke) (S:=Lh) (b:=8) ac ac (tY Qd.2.2) ac ac ac ac ac ac;rw[Cq] at hb;have hs:=(hb.resolve_left ay).2;have J:KM 1 2 63 40 (Ke,Jd):=⟨tY Rs.2.2,by decide,by decide⟩;refine⟨by decide,rfl,λi hi=>?_,hs.T,au _,by decide,by decide⟩
 have r:i=0\/i=1:=by
  have:i<2:=hi;omega
 rcases r with rfl|rfl
 .exact⟨hs.nd,aQ hs.bd ac,by decide⟩
 .exact J
def Fz:∀Θ,Θ<2->rO 2 8000000000 0 (ip 2 (wl JB IA Ke Jd [Je]) Θ):=λΘ hr=>by
 have r:Θ=0\/Θ=1:=B;have m1:∀{W:D2} {ξ:Nat},ξ<=8000000000->rO 2 ξ 0 W->rO 2 8000000000 0 W:=λhM h=>⟨λk hk=>(h.1 k hk).mono B B hM B,λk hk=>(h.2 k hk).mono B B hM B⟩;rcases r with rfl|rfl
 .exact m1 ac (zp (n:=10) Qe ac ac (by show(Lr 2 (Me (wl JB IA Ke Jd [Je]) 2) 10).T=[];rw[um,qR];rfl))
 .rw[Rr.1];have h0:=mB (mE Qe ac 2 ac) 10 ac;rw[um,qR] at h0;have J:IX 2 63 280 0 0 (wl Jp IS Kj IB []):=⟨h0.K4,h0.len,h0.nd,h0.T,au _,h0.G,h0.il⟩;exact m1 ac (zp (n:=0) J ac ac (by show(Me (wl Jp IS Kj IB []) 2).T=[];rw[zh];rfl))
theorem HI:jV Jp=[]:=by
 unfold jV;rw[mf (N:=Jp) (k:=0) rfl];grind [fC,Jp,dV,xe,xp,bj,List.mem_singleton]
def Ss:fj Jp 0=2/\fj Kj 0=2:=⟨rfl,rfl⟩
end
section
open Go.V
attribute [local irreducible] Δ R GP Ο h2 GF GE O Ef A8 A CB GB V.Enters bF Ix
def nU{L:LH}(b:Nat)(S:Χ)(k:Nat)(hS:MX k S)(hk:k<=4096)(a i:Int) :
  Λ Ε 58 #[al b,E a,E i] (aN b S::L) (C9 (E (dU (S.ο a i))) (aN b S::L)):=by
 refine Λ.bd ?_;refine Δ.c8 (f:=gT b S) ?_;intro x;simp only[gT,B1,bV,aj,ak];refine Δ.d7 ?_;intro hF;have hg:=hS.ο a i;have r:=hF.ο a i;rw[<-r] at hg ⊢;refine Δ.υ (A.at (Μ:=Ρ (λp:(Int×Int)×ey=>E7 p.2) x.ο) (sT (a,i))) ?_;refine Ih ?_;intros;refine R.ev (O.j5 rfl rfl) ac ?_;rw[rY];generalize eO x.ο (a,i)=sk at *;simp only[ey.v];refine Ih ?_;intros;refine R.cr (kn sk.M sk.C0.length sk.cap sk.C0 rfl (aQ hg.len hk) hg.C0) ?_;refine Ih ?_;intros;refine KX.a8 aw ?_ ⟨rfl,rfl⟩;refine A.trans ?_ (gj x hF);simp only[B1,bV];exact ag
def zj{Q:Int}{s0 s1:F5}{L:LH}:A (ew (Il Q) [s0,s1]::L) (a1 s0.nb s0.lb s0.d Q s0.n (aN s0.lb s0.S::a1 s1.nb s1.lb s1.d Q s1.n (aN s1.lb s1.S::L))):=by
 refine A.Ql.trans (A.NN.trans ?_);show A (a1 s0.nb s0.lb s0.d Q s0.n (aN s0.lb s0.S::ew (Il Q) [s1]::L)) _
 have h:A (ew (Il Q) [s1]::L) (a1 s1.nb s1.lb s1.d Q s1.n (aN s1.lb s1.S::L)):=by
  refine A.Ql.trans (A.NN.trans ?_);show A (a1 s1.nb s1.lb s1.d Q s1.n (aN s1.lb s1.S::ew (Il Q) []::L)) _;simp only[a1,cw];exact ag
 have U:A (aN s0.lb s0.S::ew (Il Q) [s1]::L) (aN s0.lb s0.S::a1 s1.nb s1.lb s1.d Q s1.n (aN s1.lb s1.S::L)):=A.c7 h;simp only[a1,cw] at U ⊢;repeat first|exact U|refine A.c7 ?_
def Hg{Q:Int}{s0 s1:F5}{L:LH}:A (a1 s0.nb s0.lb s0.d Q s0.n (aN s0.lb s0.S::a1 s1.nb s1.lb s1.d Q s1.n (aN s1.lb s1.S::L))) (ew (Il Q) [s0,s1]::L):=by
 refine A.trans (cq:=a1 s1.nb s1.lb s1.d Q s1.n (aN s1.lb s1.S::a1 s0.nb s0.lb s0.d Q s0.n (aN s0.lb s0.S::L))) (by simp only[a1,cw];exact ag) ?_;refine(A.f8 (Μ:=a1 s1.nb s1.lb s1.d Q s1.n [aN s1.lb s1.S])).trans ?_;refine A.trans (cq:=a1 s0.nb s0.lb s0.d Q s0.n (aN s0.lb s0.S::Il Q s1::L)) (by simp only[a1,cw,Il];exact ag) ?_;refine(A.f8 (Μ:=a1 s0.nb s0.lb s0.d Q s0.n [aN s0.lb s0.S])).trans ?_;refine A.trans (cq:=Il Q s1::Il Q s0::L) (by simp only[Il];exact ag) ?_;exact(A.c7 ((A.j0 (Il Q)).trans A.swap)).trans ((by exact ag:A _ (Il Q s1::ew (Il Q) []::Il Q s0::L)).trans (A.Qk.trans ((by exact ag:A _ (Il Q s0::ew (Il Q) [s1]::L)).trans A.Qk)))
end
section
open Go.V
def vP{α:Type}{l:List α}(h:l.length=2):∃a b,l=[a,b]:=by
 match l,h with
 | [a,b],_=>exact⟨a,b,rfl⟩
def EV{α:Type}{l:List α}(h:l.length=1):∃a,l=[a]:=by
 match l,h with
 | [a],_=>exact⟨a,rfl⟩
def St{l:IL}{M:OA}{cap:Nat}{am:List (Int×Int)}{L:LH}(h:gy l=ε dH 2 M am):A (Υ dH 2 Lz M cap am::L) (gy l::L):=by
 rw[h];exact A.JC
attribute [local irreducible] Δ R GP Ο h2 GF GE O Ef A8 A CB GB V.Enters bF Ix
def BG{L:LH} :
  Λ Ε 20 #[] (bO::L) (C9 (.bool true) (bO::L)):=by
 refine Λ.bd ?_;refine Ih ?_;intros;refine R.υ (Y:=bO::ε (a0 .i64) 1 none []::L) ((A.f5 (a0 .i64) 1 none).trans ag) ?_;refine R.ca (rf 2 ac none 0 0 [] rfl (au 0) (λx K=>iW K aD)) ?_;rintro _ _⟨wb,W,rfl,hW,rfl⟩;obtain⟨ν,ad,fe,F4,IM,ia,cU,fH,G,B9,F3,G3⟩:=W;obtain⟨q1,q2,q3,q4,q5⟩:=hW;dsimp only at q1 q2 q3 q4 q5;subst q3 q4 q5;obtain⟨s0,s1,rfl⟩:=vP (B:ν.length=2);have h0:=q2 0 (by show 0<2;decide);have J:=q2 1 (by show 1<2;decide);rw[show([s0,s1]:List F5)[0]! = s0 from rfl] at h0;rw[show([s0,s1]:List F5)[1]! = s1 from rfl] at J;obtain⟨a9,r,b1,n0,S0⟩:=s0;obtain⟨Jq,a7,b5,n1,S1⟩:=s1;obtain⟨I,a2,a3,a4⟩:=h0;obtain⟨c1,c2,c3,c4⟩:=J;dsimp only at I a2 a3 a4 c1 c2 c3 c4;have a6:b1=0:=I;have a5:S0=I2 0 H9:=a4 rfl;have c6:b5=1:=c1;have c5:S1=I2 1 H9:=c4 rfl;clear I c1 a4 c4;subst a6 c6 a5 c5;have a3:Lp 0 8 (I2 0 H9):=a3;have c3:Lp 1 8 (I2 1 H9):=c3;simp only[E6,G9,aF,aY,aO,aX];refine Ih ?_;intros;rename_i bm;rw[show([r,a7]:List Nat)[Int.toNat 0]! = r from rfl];refine R.υ (A.at (Μ:=ew (Il 2) [⟨a9,r,0,n0,I2 0 H9⟩,⟨Jq,a7,1,n1,I2 1 H9⟩]) zj) ?_;simp only[a1,cw];have h5:=a3.k;have h6:=c3.k;refine R.υ ((A.at (Μ:=obj bm JD [E 0,E 1,E 0,E 5,ae none 0 0]) (A.d9 (Β:=bJ) (sz:=5) (D:=(IV 1 0 5 (some ⟨bm,0,none⟩)).cM) (n:=1) rfl rfl (by intro y Z;rfl) ac)).trans (A.JC.trans ((A.f5 aI 3 none).trans (A.d7 (f:=G2) (x:=(⟨⟨0,1,0,5,[]⟩,none,0⟩:G0)) iN)))) ?_;have hin:=uz 1 0 5 (some ⟨bm,0,none⟩);refine R.υ ((A.at (Μ:=ε bJ 5 (some ⟨bm,0,none⟩) (IV 1 0 5 (some ⟨bm,0,none⟩)).cM) (A.refl _)).trans (A.at (Μ:=aN r (I2 0 H9)) (A.refl _))) ?_;refine R.ca (jQ r (I2 0 H9) (gm (I2 0 H9)) a3.Ik.a (by rw[a3.Ik.ζ];exact a3.Ik.ok) a3.Ik.now (IV 1 0 5 (some ⟨bm,0,none⟩)) hin.1 hin.2 (by show gm (I2 0 H9)+1<=2000;omega) qY) ?_;rw[show(IV 1 0 5 (some ⟨bm,0,none⟩)).m=I9 0 0 [⟨0,1,0,5,[]⟩] from rfl,Qd.1,Qd.2.1];generalize P3 (I2 0 H9) (I9 0 0 [⟨0,1,0,5,[]⟩])=r0;rintro _ _⟨rfl,rfl⟩;refine Ih ?_;intros;rename_i b2;rw[show([r,a7]:List Nat)[Int.toNat 1]! = a7 from rfl];refine R.υ ((A.at (Μ:=obj b2 JD [E 0,E 2,E 1,E 3,ae none 0 0]) (A.d9 (Β:=bJ) (sz:=5) (D:=(IV 2 1 3 (some ⟨b2,0,none⟩)).cM) (n:=1) rfl rfl (by intro y Z;rfl) ac)).trans (A.JC.trans ((A.f5 aI 3 none).trans (A.d7 (f:=G2) (x:=(⟨⟨0,2,1,3,[]⟩,none,0⟩:G0)) iN)))) ?_;have b3:=uz 2 1 3 (some ⟨b2,0,none⟩);refine R.υ ((A.at (Μ:=ε bJ 5 (some ⟨b2,0,none⟩) (IV 2 1 3 (some ⟨b2,0,none⟩)).cM) (A.refl _)).trans (A.at (Μ:=aN a7 (I2 1 H9)) (A.refl _))) ?_;refine R.ca (jQ a7 (I2 1 H9) (gm (I2 1 H9)) c3.Ik.a (by rw[c3.Ik.ζ];exact c3.Ik.ok) c3.Ik.now (IV 2 1 3 (some ⟨b2,0,none⟩)) b3.1 b3.2 (by show gm (I2 1 H9)+1<=2000;omega) qY) ?_;rw[show(IV 2 1 3 (some ⟨b2,0,none⟩)).m=I9 0 0 [⟨0,2,1,3,[]⟩] from rfl,Rs.1,Rs.2.1];generalize P3 (I2 1 H9) (I9 0 0 [⟨0,2,1,3,[]⟩])=r1;rintro _ _⟨rfl,rfl⟩;refine Ih ?_;intros;rename_i ba bb bl;rw[show([a9,Jq]:List Nat)[Int.toNat 0]! = a9 from rfl];obtain⟨la,c0⟩:∃l:IL,(⟨K5,some ⟨ba,0,none⟩,1⟩:IL)=l:=⟨_,rfl⟩;obtain⟨lb,d0⟩:∃l:IL,(⟨LM,some ⟨bb,0,none⟩,1⟩:IL)=l:=⟨_,rfl⟩;refine R.υ (Y:=a1 a9 r 0 2 n0 (aN r Lh::(a1 Jq a7 1 2 n1 (aN a7 Jd::obj wb KB [ae ad (0+1+1) fe,ae F4 (0+1+1) IM,ae cU 0 fH,E 0,ae F3 0 G3]::ε cI 1 ad [r,a7]::ε cI 1 F4 [a9,Jq]::G4 aV 3 hy cU fH []::Ρ cV []::Υ (a0 .i64) 1 kR F3 G3 []::bO::Υ dH 2 Lz (some ⟨ba,0,none⟩) 1 [(0,5)]::Υ dH 2 Lz (some ⟨bb,0,none⟩) 1 [(1,3)]::Υ aW 5 KT (some ⟨bl,0,none⟩) 2 [la,lb]::L)))) ?_ ?_
 .refine(A.at (Μ:=obj ba Lz [E 0,E 5]) (A.d9 (Β:=dH) (sz:=2) (D:=[(0,5)]) (n:=1) rfl rfl (by intro y Z;rfl) ac)).trans ?_;refine(A.at (Μ:=obj bb Lz [E 1,E 3]) (A.d9 (Β:=dH) (sz:=2) (D:=[(1,3)]) (n:=1) rfl rfl (by intro y Z;rfl) ac)).trans ?_;refine(A.at (Μ:=obj bl KT [E 0,E 1,E 1,E 2,ae (some ⟨ba,0,none⟩) 1 1,E 1,E 2,E 0,E 1,ae (some ⟨bb,0,none⟩) 1 1]) (A.d9 (Β:=aW) (sz:=5) (D:=[la,lb]) (n:=2) (by rw[<-c0,<-d0];rfl) rfl (by intro y Z;rfl) ac)).trans ?_;simp only[a1,cw];exact ag
 have e1:la.m=K5:=by rw[<-c0]
 have e2:lb.m=LM:=by rw[<-d0]
 have d1:[la,lb].map (·.m)=xl:=by rw[aF,aF,aY,e1,e2];rfl
 refine R.υ (Y:=ε aW 5 (some ⟨bl,0,none⟩) [la,lb]::Ρ gy [la,lb]::a1 a9 r 0 2 n0 (aN r Lh::(a1 Jq a7 1 2 n1 (aN a7 Jd::obj wb KB [ae ad (0+1+1) fe,ae F4 (0+1+1) IM,ae cU 0 fH,E 0,ae F3 0 G3]::ε cI 1 ad [r,a7]::ε cI 1 F4 [a9,Jq]::G4 aV 3 hy cU fH []::Ρ cV []::Υ (a0 .i64) 1 kR F3 G3 []::bO::L)))) ?_ ?_
 .simp only[a1,cw];refine(A.at (Μ:=Υ aW 5 KT (some ⟨bl,0,none⟩) 2 [la,lb]) A.JC).trans ?_;refine(A.at (Μ:=Υ dH 2 Lz (some ⟨bb,0,none⟩) 1 [(1,3)]) ((St (l:=lb) (by rw[<-d0];rfl)).trans (A.d7 (f:=gy) eD))).trans ?_;refine(A.at (Μ:=Υ dH 2 Lz (some ⟨ba,0,none⟩) 1 [(0,5)]) (St (l:=la) (by rw[<-c0];rfl))).trans ?_;refine A.trans (cq:=gy la::Ρ gy [lb]::(ε aW 5 (some ⟨bl,0,none⟩) [la,lb]::a1 a9 r 0 2 n0 (aN r Lh::(a1 Jq a7 1 2 n1 (aN a7 Jd::obj wb KB [ae ad (0+1+1) fe,ae F4 (0+1+1) IM,ae cU 0 fH,E 0,ae F3 0 G3]::ε cI 1 ad [r,a7]::ε cI 1 F4 [a9,Jq]::G4 aV 3 hy cU fH []::Ρ cV []::Υ (a0 .i64) 1 kR F3 G3 []::bO::L))))) (by simp only[a1,cw];exact ag) ?_;refine(A.j5 (f:=gy) eD).trans ?_;simp only[a1,cw];exact ag
 have e6:Lf H9 0 2 n0.m Lh:=by rw[a2];exact tY Qd.2.2
 have f1:n0.ω=0:=by have e:=congrArg eu.ω a2;exact e
 have f0:∀l∈[la,lb],l.m.am.length<=1000:=λl hl=>by
  rcases Jr hl with rfl|hl
  .rw[e1];decide
  .rw[D6 hl,e2];decide
 have f7:gm Lh+E9 n0.m+2*Kh ([la,lb].map (·.m))<=2000:=by
  rw[d1,a2];have:=Qd.2.2.k
  show gm Lh+0+2*2<=2000;omega
 have f4:dV n0.m.δ (0*4294967296+n0.ω)=none:=by rw[a2,f1];rfl
 have d3:=λξ:LH=>rM (L:=ξ) a9 r 0 2 ac n0 Lh H9 e6.hin (by show H9.B5.length<=64;decide) (by rw[f1];decide) (some ⟨bl,0,none⟩) 2 2 [la,lb] rfl (by show 2<=1000;decide) f0 0 9 f7 f4;rw[d1,a2,Cq] at d3;refine R.ca (d3 _) ?_;rintro _ _⟨b8,b0,ds,n2,rfl,b9,g5,rfl⟩;dsimp only at b9 g5
 obtain⟨Ξ,rfl⟩:∃Ξ,ds=[Ξ]:=by
  have hl:=congrArg List.length b9;rw[ah] at hl;exact EV hl
 have hd:Ξ.m=Je:=by have e:=b9;rw[aF,aY] at e;exact(List.cons.inj e).1
 simp only[a1,cw,aO,aX];clear d3 f0 f7 f4 e6 c0 d0 e1 e2 d1 hin b3 q1 q2 b9;have e7:KM 0 2 63 40 (JB,IA):=Qe.at ac;have h3:KM 1 2 63 40 (Ke,Jd):=Qe.at ac;have f6:=e7.a.hin.Ik.a.g;have g6:=e7.bd;dsimp only at f6 g6;refine Ih ?_;intros;refine GB.neg (λh=>h (by show Ξ.m.to=1;rw[hd];rfl)) ?_;refine Ih ?_;intros;rw[show([r,a7]:List Nat)[Int.toNat 0]! = r from rfl];refine R.υ (A.at (Μ:=aN r IA) (A.refl _)) ?_;refine R.ca (nU r IA (gm IA) f6 B 1 0) ?_;rw[Rq.1];rintro _ _⟨rfl,rfl⟩;refine Ih ?_;intros;obtain⟨W0,d2⟩:∃W:E4,(⟨[⟨a9,r,0,n2,IA⟩,⟨Jq,a7,1,n1,Jd⟩],ad,fe,F4,IM,[Ξ],b8,b0,0,[],F3,G3⟩:E4)=W:=⟨_,rfl⟩
 have d6:W0.m=wl JB IA Ke Jd [Je]:=by
  rw[<-d2];simp only[E4.m,aF,aY,F5.m,g5,c2,hd];rfl
 have b7:N2 W0:=by
  rw[<-d2];intro i hi;have h4:i<2:=hi;rcases (B:i=0\/i=1) with rfl|rfl<;>rfl
 refine R.υ (Y:=E6 wb 2 W0 (bO::L)) ?_ ?_
 .rw[<-d2];simp only[E6,G9,aF,aY,aO,aX];refine(A.at (Μ:=Υ aV 3 hy b8 b0 [Ξ]) (A.j7)).trans ?_;refine A.trans (cq:=a1 a9 r 0 2 n2 (aN r IA::a1 Jq a7 1 2 n1 (aN a7 Jd::(obj wb KB [ae ad (0+1+1) fe,ae F4 (0+1+1) IM,ae b8 (0+1) b0,E 0,ae F3 0 G3]::ε cI 1 ad [r,a7]::ε cI 1 F4 [a9,Jq]::G4 aV 3 hy b8 b0 [Ξ]::Ρ cV [Ξ]::Υ (a0 .i64) 1 kR F3 G3 []::bO::L)))) (by simp only[a1,cw];exact ag) ?_;refine(Hg (s0:=⟨a9,r,0,n2,IA⟩) (s1:=⟨Jq,a7,1,n1,Jd⟩)).trans ?_;exact ag
 have b4:=λξ:LH=>xy (L:=ξ) wb 2 W0 b7 2 ac (ξ:=8000000000) (bU:=0) ac (by rw[d6];exact Qe.mono (au _) ac ac (au _)) (λΘ hr=>by rw[d6];exact Fz Θ hr);rw[d6,Rr.2] at b4;refine R.ca (b4 _) ?_;rintro _ _⟨W',rfl,⟨g0,g7⟩,rfl⟩;obtain⟨ν,ad,fe,F4,IM,ia,cU,fH,G,B9,F3,G3⟩:=W';have b6:ν.map F5.m=[(Jp,IS),(Kj,IB)]:=congrArg D2.IW g0;obtain⟨s0,s1,rfl⟩:=vP (show ν.length=2 by have e:=congrArg List.length b6;rw[ah] at e;exact e);obtain⟨a9,r,b1,m0,S0⟩:=s0;obtain⟨Jq,a7,b5,m1,S1⟩:=s1;rw[aF,aF,aY] at b6;have e0:=(List.cons.inj b6).1;have e4:=(List.cons.inj (List.cons.inj b6).2).1;have g1:m0.m=Jp:=congrArg Prod.fst e0;have g2:S0=IS:=congrArg Prod.snd e0;have g3:m1.m=Kj:=congrArg Prod.fst e4;have g4:S1=IB:=congrArg Prod.snd e4;subst g2 g4;clear g0 g7 b4 b7 b6 e0 e4;simp only[E6,G9,aF,aY,aO,aX];refine R.υ ((A.at (Μ:=ew (Il 2) [⟨a9,r,b1,m0,IS⟩,⟨Jq,a7,b5,m1,IB⟩]) zj).trans (A.trans (cq:=a1 a9 r b1 2 m0 (aN r IS::a1 Jq a7 b5 2 m1 (aN a7 IB::obj wb KB [ae ad (0+1+1) fe,ae F4 (0+1+1) IM,ae cU ia.length fH,E G,ae F3 B9.length G3]::ε cI 1 ad [r,a7]::ε cI 1 F4 [a9,Jq]::bO::L))) (by simp only[a1,cw];exact ag) (A.refl _))) ?_;simp only[a1,cw]
 have hF:IX 2 63 1900 8000000000 0 (wl Jp IS Kj IB []):=by
  have q:=(Fz 1 ac).1 0 ac;rw[Rr.1] at q;exact q
 have e8:KM 0 2 63 1900 (Jp,IS):=hF.at ac;have e9:KM 1 2 63 1900 (Kj,IB):=hF.at ac;have f2:=e8.a.hin.Ik.a.g;have f3:=e9.a.hin.Ik.a.g;have d4:=e8.bd;have d5:=e9.bd;dsimp only at f2 f3 d4 d5
 have e5:∀p∈m0.Ζ,p.2.Η.length<=1000:=λp hp=>by
  have q:(p.1,p.2.m)∈Jp.Ζ:=by rw[<-g1];exact List.mem_map.2 ⟨p,hp,rfl⟩
  have e:=D6 q;have e2:=congrArg (λx:Int×Lb=>x.2.Η.length) e;have e3:p.2.Η.length=1:=(ah _).symm.trans e2;omega
 refine Ih ?_;intros;rw[show([a9,Jq]:List Nat)[Int.toNat 0]! = a9 from rfl];refine R.ca (ko a9 r b1 2 m0 0) ?_;rw[g1,Ss.1];rintro _ _⟨rfl,rfl⟩;simp only[a1,cw];refine Ih ?_;intros;rw[show([a9,Jq]:List Nat)[Int.toNat 1]! = Jq from rfl];refine R.υ (Y:=a1 Jq a7 b5 2 m1 (aN a7 IB::a1 a9 r b1 2 m0 (aN r IS::obj wb KB [ae ad (0+1+1) fe,ae F4 (0+1+1) IM,ae cU ia.length fH,E G,ae F3 B9.length G3]::ε cI 1 ad [r,a7]::ε cI 1 F4 [a9,Jq]::bO::L))) (by simp only[a1,cw];exact ag) ?_;refine R.ca (ko Jq a7 b5 2 m1 0) ?_;rw[g3,Ss.2];rintro _ _⟨rfl,rfl⟩;simp only[a1,cw];refine Ih ?_;intros;rw[show([r,a7]:List Nat)[Int.toNat 0]! = r from rfl];refine R.υ (A.at (Μ:=aN r IS) (A.refl _)) ?_;refine R.ca (nU r IS (gm IS) f2 B 1 1) ?_;rw[Rq.2.1];rintro _ _⟨rfl,rfl⟩;refine Ih ?_;intros;rw[show([r,a7]:List Nat)[Int.toNat 1]! = a7 from rfl];refine R.υ (A.at (Μ:=aN a7 IB) (A.refl _)) ?_;refine R.ca (nU a7 IB (gm IB) f3 B 2 0) ?_;rw[Rq.2.2];rintro _ _⟨rfl,rfl⟩;refine Ih ?_;intros;rw[show([a9,Jq]:List Nat)[Int.toNat 0]! = a9 from rfl];refine R.υ (Y:=a1 a9 r b1 2 m0 (bO::L)) (by simp only[a1,cw];exact ag) ?_;refine R.ca (oF a9 r b1 2 m0 (by rw[show m0.δ.length=Jp.δ.length by rw[<-g1];exact(ah _).symm];decide) (by rw[show m0.Ζ.length=Jp.Ζ.length by rw[<-g1];exact(ah _).symm];decide) e5) ?_;rw[g1,HI];rintro _ _⟨h7,U,rfl,rfl⟩;simp only[a1,cw];refine Ih ?_;intros;refine KX.a8 aw ?_ ⟨by rw[bI (show(([]:List Int).length:Int)=0 from rfl)];rfl,rfl⟩;exact ag
end
section
open Go.V
def QH(k:Int):Int:=if k=0\/k=5 then 1 else if k=1\/k=6 then -1 else 0
def Rt(x:Int)(f:D9):Int:=if f.aT=x then QH f.Κ*f.n else 0
def M6(x:Int)(fl:List D9):Int:=(fl.map (Rt x)).sum
theorem Gf(x:Int)(a b:List D9):M6 x (a++b)=M6 x a+M6 x b:=by
 grind [M6]
theorem Ew(x:Int)(f:D9)(b:List D9):M6 x (f::b)=Rt x f+M6 x b:=by
 grind [M6]
def O8(k:Int):Int->List A9->List D9->Prop
 | _,[],Io=>Io=[]
 | F,m::T,Io=>∃f F',Io=f::F'/\(f.F=F/\f.Κ=k/\f.aT=m.aT/\f.n=m.n/\(k=5->f.Ζ=m.Ζ))/\O8 k (F+1) T F'
theorem BU{d:Int}{fl:List D9}{fL:Int->Bool}{s:C8}{W:Wk}{m:A9}(h:(ce d fl fL s W m).1=0):(ce d fl fL s W m).2.Ι=W.Ι++[fV d fl.length fL s W m]/\(ce d fl fL s W m).2.gr=K6 W.gr m.aT (dj W m):=by
 grind [ce]
theorem CZ{k:Int}{W:Wk}{m:A9}(hk:¬(k=7\/k=9))(he:iD k m)(hn:m.Ψ≠m.to):dj W m=W.gr m.aT+QH k*m.n:=by
 grind [iD,dj,QH]
theorem tw{d:Int}{fl:List D9}{fL:Int->Bool}{s:C8}(hk:¬(s.Κ=7\/s.Κ=9)):∀(T:List A9) (W:Wk),(cL d fl fL s W T).1=0->(∀m∈T,iD s.Κ m/\m.Ψ≠m.to)->∃Io,(cL d fl fL s W T).2.Ι=W.Ι++Io/\O8 s.Κ (dZ d fl.length W) T Io/\∀x,(cL d fl fL s W T).2.gr x=W.gr x+M6 x Io
 | [],W,_,_=>⟨[],(aJ _).symm,rfl,λx=>(Int.add_zero _).symm⟩
 | m::T,W,h,hm=>by
  have e:cL d fl fL s W (m::T)=if(ce d fl fL s W m).1=0 then cL d fl fL s (ce d fl fL s W m).2 T else((ce d fl fL s W m).1,W):=rfl;rw[e] at h ⊢;by_cases h0:(ce d fl fL s W m).1=0
  case neg =>
   grind
  rw[μ h0] at h ⊢;obtain⟨f1,f2⟩:=BU h0;obtain⟨he,r⟩:=hm m ay;obtain⟨Io,g1,g2,g3⟩:=tw hk T (ce d fl fL s W m).2 h ay;refine⟨fV d fl.length fL s W m::Io,?_,⟨_,Io,rfl,⟨rfl,rfl,rfl,rfl,λh5=>?_⟩,?_⟩,λx=>?_⟩
  .grind
  .show La fL s W m=m.Ζ;grind [iD,La]
  .grind [dZ]
  .rw[g3,f2,Ew];have e3:K6 W.gr m.aT (dj W m) x=if x=m.aT then dj W m else W.gr x:=rfl;rw[e3];unfold Rt;show _=W.gr x+((if m.aT=x then QH s.Κ*m.n else 0)+M6 x Io);grind [CZ]
def Gl{S:Χ}{s:C8}(h:(E2 S s).1=0)(hk:¬(s.Κ=4\/s.Κ=10\/s.Κ=7\/s.Κ=9)):∃Io,(bP S s).Ι=S.Ι++Io/\O8 s.Κ (S.kQ*4294967296+S.Ι.length) s.cM Io/\(∀x,(bP S s).gr x=S.gr x+M6 x Io)/\∀m∈s.cM,0<=m.aT/\m.aT<S.ζ.B5.length:=by
 have hp:=iv h;have he:=pI h;have h3:=h;rw[he] at h3;have hw:=hp.2.2.2.2.2;unfold ol at hw;rw[Ω B,Ω B] at hw;obtain⟨Io,f1,f2,f3⟩:=tw (s:=s.at (cp S)) (by show ¬(s.Κ=7\/s.Κ=9);omega) s.cM (Jm S) h3 λm hm=>⟨hw.1 m hm,(hp.2.2.2.2.1 m hm).1.2.2.1⟩;refine⟨Io,?_,?_,λx=>?_,λm hm=>(hp.2.2.2.2.1 m hm).1.1⟩
 .rw[show bP S s=eX S s from μ h];show S.Ι++(E2 S s).2.Ι=_;rw[he,f1];rfl
 .have e:dZ S.kQ S.Ι.length (Jm S)=S.kQ*4294967296+S.Ι.length:=by
   show S.kQ*4294967296+(S.Ι.length:Int)+((0:Nat):Int)=_;omega
  rw[e] at f2;exact f2
 .rw[show bP S s=eX S s from μ h];show(E2 S s).2.gr x=_;rw[he,f3];rfl
def QI(F:Int):Nat->List Int
 | 0=>[]
 | n+1=>F::QI (F+1) n
theorem wa(F:Int):∀n,(QI F n).length=n
 | 0=>rfl
 | n+1=>by rw[QI,aO,wa (F+1) n]
def M7(fl:List D9):LL:=(fl.filter λf=>decide (f.Κ=6)).map λf=>(f.F,0,f.n)
def BE(am:List (Int×Int))(fl:List Int):LL:=(am.zip fl).map λp=>(p.2,0,p.1.2)
theorem Fp(a b:List D9):M7 (a++b)=M7 a++M7 b:=by
 grind [M7]
theorem BR(a b:List D9):du (a++b)=du a++du b:=by
 grind [du]
def zU{k:Int}:∀{T:List A9} {F:Int} {Io:List D9},O8 k F T Io->Io.map (·.F)=QI F T.length
 | [],_,_,h=>by rw[show _=[] from h];rfl
 | m::T,F,_,⟨f,F',J,U,h3⟩=>by
  rw[J,aF,zU h3,U.1];rfl
def pJ{k:Int}:∀{T:List A9} {F:Int} {Io:List D9},O8 k F T Io->∀f∈Io,f.Κ=k/\∃m∈T,f.aT=m.aT
 | [],_,_,h,f,hf=>by rw[show _=[] from h] at hf;cases hf
 | m::T,F,_,⟨g,F',J,U,h3⟩,f,hf=>by
  rw[J] at hf;rcases Jr hf with rfl|hf
  .exact⟨U.2.1,m,az,U.2.2.1⟩
  .obtain⟨q1,y,q2,q3⟩:=pJ h3 f hf;exact⟨q1,y,aB _ q2,q3⟩
theorem Fo{Io:List D9}(h:∀f∈Io,¬f.Κ=6):M7 Io=[]:=by
 grind [M7,List.filter_eq_nil_iff]
theorem Ff{Io:List D9}(h:∀f∈Io,¬f.Κ=5):du Io=[]:=by
 grind [du,List.filter_eq_nil_iff]
theorem GT{k:Int}{T:List A9}{F:Int}{Io:List D9}(h:O8 k F T Io):Io.length=T.length:=by
 have e:=congrArg List.length (zU h);grind [wa]
theorem zC:∀T:List A9,T.length<=C2 T
 | []=>au _
 | m::T=>by
  have:=zC T
  show T.length+1<=(m.Ζ.length+1)+C2 T;omega
structure N3 (d:Int) (S:Χ):Prop where
 Su:S.kQ=d
 ζ:S.ζ.B5.length=4
 fb:S.Ι.length<=64*S.hx.length/\S.hx.length<=65536
 fk:S.Ι.length<=gm S
 gr:∀x,S.gr x=M6 x S.Ι
 aT:∀f∈S.Ι,0<=f.aT/\f.aT<4
structure Ug (d:Int) (S S' : Χ) (Κ:Int) (T:List A9) (Io:List D9):Prop where
 fl:S'.Ι=S.Ι++Io
 fs:O8 Κ (d*4294967296+S.Ι.length) T Io
 j:N3 d S'
theorem EX{d:Int}{S:Χ}{s:C8}(hJ:N3 d S)(h:(E2 S s).1=0)(hk:¬(s.Κ=4\/s.Κ=10\/s.Κ=7\/s.Κ=9)):∃Io,Ug d S (bP S s) s.Κ s.cM Io:=by
 obtain⟨Io,f1,f2,f3,f4⟩:=Gl h hk;have hp:=iv h;have hl:=GT f2;have hm:=hp.2.2.2.1.2
 have I:S.hx.length<65536:=by
  by_cases q:65536<=S.hx.length
  .grind [E2]
  .omega
 have r:=hJ.fb;have e1:(bP S s).hx=S.hx++[s.at (cp S)]:=by rw[show bP S s=eX S s from μ h];rfl
 have e2:(bP S s).kQ=S.kQ:=by rw[show bP S s=eX S s from μ h];rfl
 have e3:(bP S s).ζ=S.ζ:=by rw[show bP S s=eX S s from μ h];rfl
 rw[hJ.Su] at f2;refine⟨Io,f1,f2,⟨e2.trans hJ.Su,by rw[e3];exact hJ.ζ,?_,?_,λx=>?_,λf hf=>?_⟩⟩
 .grind
 .have:=hJ.fk
  grind [zC,iC]
 .rw[f3,f1,Gf,hJ.gr]
 .rw[f1] at hf;rcases It hf with hf|hf
  .exact hJ.aT f hf
  .obtain⟨_,m,hm,e⟩:=pJ f2 f hf;have:=f4 m hm
   have:=hJ.ζ
   omega
theorem Dh{d:Int}{S:Χ}{s:C8}(hJ:N3 d S)(hk:¬(s.Κ=4\/s.Κ=10\/s.Κ=7\/s.Κ=9))(h5:¬s.Κ=5)(h6:¬s.Κ=6):N3 d (bP S s)/\M7 (bP S s).Ι=M7 S.Ι/\du (bP S s).Ι=du S.Ι/\S.Ι.length<=(bP S s).Ι.length:=by
 by_cases h:(E2 S s).1=0
 .obtain⟨Io,hF⟩:=EX hJ h hk;refine⟨hF.j,?_,?_,?_⟩
  .rw[hF.fl,Fp,Fo (Io:=Io) (λf hf=>by rw[(pJ hF.fs f hf).1];exact h6),aJ]
  .rw[hF.fl,BR,Ff (Io:=Io) (λf hf=>by rw[(pJ hF.fs f hf).1];exact h5),aJ]
  .rw[hF.fl,aq];omega
 grind [bP]
structure Gh where
 Δ:Int->Option (List G7)
 X:Int×Int->Option (List Int)
def Gh.bB(g:Gh)(k:Int×Int):Option G7:=match g.Δ k.1 with
 | some ls=>if 0<=k.2 then ls[k.2.toNat]? else none
 | none=>none
theorem me{g g' : Gh}(h:g'.Δ=g.Δ)(k:Int×Int):g'.bB k=g.bB k:=by
 unfold Gh.bB;rw[h]
def rz(g:Gh)(k:Int×Int):LL:=match g.bB k with
 | some l=>match g.X k with
  | some fl=>BE l.am fl
  | none=>[]
 | none=>[]
def ry{g:Gh}{k:Int×Int}{l:G7}{fl:List Int}(J:g.bB k=some l)(U:g.X k=some fl):rz g k=BE l.am fl:=by
 unfold rz;rw[J,U]
structure Ot (g:Gh):Prop where
 xl:∀k fl,g.X k=some fl->∃l,g.bB k=some l/\(∀x∈fl,x / 4294967296=l.d)/\fl.Nodup
 X8:∀k k' a b,g.X k=some a->g.X k' = some b->k≠k'->∀x∈a,x∉b
structure NI (g:Gh) (d:Int) (rv:List (Int×Int)) (S:Χ):Prop where
 Ik:N3 d S
 exp:∀k l fl,g.bB k=some l->l.d=d->g.X k=some fl->(∀y∈BE l.am fl,y∈M7 S.Ι)/\∀x∈fl,x<d*4294967296+S.Ι.length
 nd:rv.Nodup
 rc:∀k∈rv,∃l fl,g.bB k=some l/\l.ts=d/\g.X k=some fl
 imp:du S.Ι=rv.flatMap (rz g)
structure Ou (g:Gh) (d F:Int) (o:B0):Prop where
 lg:g.bB (F,o.eZ)=some o.bB
 d:o.bB.d=d
 x0:o.state=0->g.X (F,o.eZ)=none
 x1:o.state=1->g.X (F,o.eZ)=some o.Ι
structure LN (g:Gh) (y:xs):Prop where
 pr:y.ct.Κ=1->g.Δ y.ct.F=some y.ct.Η
 tr:y.ct.Κ=5->∃l,g.bB (y.ct.F,y.ct.eZ)=some l/\y.ct.Η=[l]/\l.ts=y.to/\g.X (y.ct.F,y.ct.eZ)=some y.ct.Ι
def NI.keep{g:Gh}{d:Int}{rv:List (Int×Int)}{S S' : Χ}(h:NI g d rv S)(hJ:N3 d S')(J:M7 S'.Ι=M7 S.Ι)(U:du S'.Ι=du S.Ι)(h3:S.Ι.length<=S'.Ι.length):NI g d rv S' :=
 ⟨hJ,λk l fl q1 q2 q3=>⟨by rw[J];exact(h.exp k l fl q1 q2 q3).1,λx K=>by have:=(h.exp k l fl q1 q2 q3).2 x K;omega⟩,h.nd,h.rc,by rw[U];exact h.imp⟩
def Gh.put(g:Gh)(k:Int×Int)(fl:List Int):Gh:={ g with X:=λj=>if j=k then some fl else g.X j }
def oV{α β:Type}{f f' : α->List β}:∀{l:List α},(∀x∈l,f x=f' x)->l.flatMap f=l.flatMap f'
 | [],_=>rfl
 | a::l,h=>by rw[aR,aR,h a az,oV λx K=>h x (aB _ K)]
def NI.C0{g g' : Gh}{d:Int}{rv:List (Int×Int)}{S:Χ}(h:NI g d rv S)(hG:g'.Δ=g.Δ)(hm:∀k fl,g.X k=some fl->g'.X k=some fl):rv.flatMap (rz g')=rv.flatMap (rz g):=by
 refine oV λk hk=>?_;obtain⟨l,fl,q1,q2,q3⟩:=h.rc k hk;rw[ry q1 q3,ry ((me hG k).trans q1) (hm k fl q3)]
