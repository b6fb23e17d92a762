/- Lemmas. -/
import Derived.Test.YtlgpgjdggilkgaaGreatDoorEcbr
set_option linter.all false
set_option maxHeartbeats 16000000
namespace Go.Proofs.YtlgpgjdggilkgaaGreatDoor
section
open Go.V
def Gk{shs:Int}{c b M T:Nat}{W:WdM}(h:WdI shs c b M T W)(hb:b≤2000){k:Int}(hk:0≤k∧k<shs):WdI shs c b (M+600000000) T (advK W k):=by
 have hN:=h.at hk;have hr:=ll (tick:=W.tick) hk h.rng.2 hN.a hN.bd hb;exact h.send hk ⟨hr.nd,hr.bd,by have e:=hr.cnt;have:=hN.cnt;dsimp only at e ⊢;omega⟩ hr.ms hr.len
def FO{shs:Int}{c b M T:Nat}{W:WdM}(h:WdI shs c b M T W)(hb:b+24≤2000):WdI shs c (b+24) (M+3300) T (dlvM shs W):=by
 unfold dlvM;cases hm:W.ms with
 | nil=>exact h.mono (aq _) ab ab (aq _)
 | cons m ms =>
  have hx:=h.ms m (by rw[hm];exact av);have hN:=h.at hx.x.to;have hr:=oe (tick:=W.tick) hx.x.to hN.a hx hN.bd hb
  have h1:WdI shs c (b+24) M T { W with ms:=ms } :=
   have h2:=h.mono (aq c) (ab:b≤b+24) (aq M) (aq T)
   ⟨h2.rng,h2.len,h2.nd,fun y hy=>h.ms y (by rw[hm];exact au _ hy),by have:=h.ml;rw[hm,aM] at this;dsimp only;omega,h2.tick,h2.il⟩
  dsimp only;rw[if_pos hx.x.to];exact h1.send hx.x.to ⟨hr.nd,hr.bd,by have e:=hr.cnt;have:=hN.cnt;dsimp only at e ⊢;omega⟩ hr.ms hr.len
def nL{shs:Int}{c b M T:Nat}{W:WdM}(h:WdI shs c b M T W):∀k:Nat,b+24*k≤2000→WdI shs c (b+24*k) (M+3300*k) T (dlvN shs W k)
 | 0,_=>h
 | k+1,hb=>(FO (nL h k ab) ab).mono (aq _) ab ab (aq _)
def nQ{shs:Int}{c b M T:Nat}{W:WdM}(h:WdI shs c b M T W)(hb:b≤2000):∀k:Nat,(k:Int)≤shs→WdI shs c b (M+600000000*k) T (advN W k)
 | 0,_=>h
 | k+1,hk=>(Gk (nQ h hb k ab) hb ⟨ab,ab⟩).mono (aq _) (aq _) ab (aq _)
def Bl{shs:Int}{c b M T n:Nat}{W:WdM}(h:WdI shs c b M T W)(hc:c≤63)(hb:b+24*n≤1900)(hn:(dlvN shs (advN W shs.toNat) n).ms=[]):ua shs (M+7300000000+3300*n) T W:=by
 have hr:=h.rng;refine⟨fun k hk=>(nQ h ab k hk).mono hc ab ab (aq _),fun k hk=>?_⟩;have h1:=nQ h ab shs.toNat ab;by_cases a0:k≤n
 ·exact(nL h1 k ab).mono hc ab ab (aq _)
 ·rw[mZ hn k ab];exact(nL h1 n ab).mono hc ab ab (aq _)
def FN{shs:Int}{W:WdM}{m:MsM}{ms:List MsM}{R:HRes}(h:W.ms=m::ms)(a0:0≤m.to∧m.to<shs)(hr:eH m.to shs m W.tick (W.nd m.to).1 (W.nd m.to).2=R):dlvM shs W=({ W with ms:=ms }:WdM).send m.to R:=by
 unfold dlvM;rw[h];dsimp only;rw[if_pos a0,hr]
def wl(na:NdM)(xa:LedM)(nb:NdM)(xb:LedM)(ms:List MsM):WdM:=⟨[(na,xa),(nb,xb)],ms,0,[]⟩
def HG{na a0 nb:NdM}{xa a1 xb:LedM}{ms out:List MsM}(hr:eu 0 0 na xa=(out,a0,a1)):advK (wl na xa nb xb ms) 0=wl a0 a1 nb xb (ms++out):=by
 unfold advK;rw[show eu 0 (wl na xa nb xb ms).tick ((wl na xa nb xb ms).nd 0).1 ((wl na xa nb xb ms).nd 0).2=_ from hr];rfl
def HF{na a0 nb:NdM}{xa a1 xb:LedM}{ms out:List MsM}(hr:eu 1 0 nb xb=(out,a0,a1)):advK (wl na xa nb xb ms) 1=wl na xa a0 a1 (ms++out):=by
 unfold advK;rw[show eu 1 (wl na xa nb xb ms).tick ((wl na xa nb xb ms).nd 1).1 ((wl na xa nb xb ms).nd 1).2=_ from hr];rfl
def dlv0{na a1 nb:NdM}{xa a2 xb:LedM}{m:MsM}{ms out:List MsM}(a0:m.to=0)(hr:eH 0 2 m 0 na xa=(out,a1,a2)):dlvM 2 (wl na xa nb xb (m::ms))=wl a1 a2 nb xb (ms++out):=by
 have h:=FN (shs:=2) (W:=wl na xa nb xb (m::ms)) (m:=m) (ms:=ms) (R:=(out,a1,a2)) rfl (by rw[a0];decide) (by rw[a0];exact hr);rw[h,a0];rfl
def dlv1{na a1 nb:NdM}{xa a2 xb:LedM}{m:MsM}{ms out:List MsM}(a0:m.to=1)(hr:eH 1 2 m 0 nb xb=(out,a1,a2)):dlvM 2 (wl na xa nb xb (m::ms))=wl na xa a1 a2 (ms++out):=by
 have h:=FN (shs:=2) (W:=wl na xa nb xb (m::ms)) (m:=m) (ms:=ms) (R:=(out,a1,a2)) rfl (by rw[a0];decide) (by rw[a0];exact hr);rw[h,a0];rfl
def wr:advN (wl na1 xa1 nd0 xb0 [mp1]) 2=wl na1 xa1 nd0 xb0 [mp1,mp1]:=by
 have h1:advK (wl na1 xa1 nd0 xb0 [mp1]) 0=wl na1 xa1 nd0 xb0 [mp1,mp1]:=HG JZ;have h2:advK (wl na1 xa1 nd0 xb0 [mp1,mp1]) 1=wl na1 xa1 nd0 xb0 [mp1,mp1]:=HF Ka;show advK (advK (wl na1 xa1 nd0 xb0 [mp1]) 0) 1=_;rw[h1,h2]
def Bc:advN (wl na5 xa3 nb4 xb3 []) 2=wl na5 xa3 nb4 xb3 []:=by
 have h1:advK (wl na5 xa3 nb4 xb3 []) 0=wl na5 xa3 nb4 xb3 []:=HG JY;have h2:advK (wl na5 xa3 nb4 xb3 []) 1=wl na5 xa3 nb4 xb3 []:=HF JX;show advK (advK (wl na5 xa3 nb4 xb3 []) 0) 1=_;rw[h1,h2]
def sK:dlvN 2 (wl na1 xa1 nd0 xb0 [mp1,mp1]) 10=wl na5 xa3 nb4 xb3 []:=by
 have e1:dlvM 2 (wl na1 xa1 nd0 xb0 [mp1,mp1])=wl na1 xa1 nb1 xb1 [mp1,mv1]:=dlv1 rfl xd1;have e2:dlvM 2 (wl na1 xa1 nb1 xb1 [mp1,mv1])=wl na1 xa1 nb1 xb1 [mv1,mv1]:=dlv1 rfl xd2;have e3:dlvM 2 (wl na1 xa1 nb1 xb1 [mv1,mv1])=wl na2 xa2 nb1 xb1 [mv1,mt1,md1]:=dlv0 rfl xd3;have e4:dlvM 2 (wl na2 xa2 nb1 xb1 [mv1,mt1,md1])=wl na2 xa2 nb1 xb1 [mt1,md1]:=dlv0 rfl xd4;have e5:dlvM 2 (wl na2 xa2 nb1 xb1 [mt1,md1])=wl na2 xa2 nb2 xb2 [md1,mg0]:=dlv1 rfl xd5;have e6:dlvM 2 (wl na2 xa2 nb2 xb2 [md1,mg0])=wl na2 xa2 nb3 xb3 [mg0,mt0,mw0]:=dlv1 rfl xd6;have e7:dlvM 2 (wl na2 xa2 nb3 xb3 [mg0,mt0,mw0])=wl na3 xa2 nb3 xb3 [mt0,mw0]:=dlv0 rfl xd7;have e8:dlvM 2 (wl na3 xa2 nb3 xb3 [mt0,mw0])=wl na4 xa3 nb3 xb3 [mw0,mg1]:=dlv0 rfl xd8;have e9:dlvM 2 (wl na4 xa3 nb3 xb3 [mw0,mg1])=wl na5 xa3 nb3 xb3 [mg1]:=dlv0 rfl xd9;have a0:dlvM 2 (wl na5 xa3 nb3 xb3 [mg1])=wl na5 xa3 nb4 xb3 []:=dlv1 rfl xd10;show dlvM 2 (dlvM 2 (dlvM 2 (dlvM 2 (dlvM 2 (dlvM 2 (dlvM 2 (dlvM 2 (dlvM 2 (dlvM 2 (wl na1 xa1 nd0 xb0 [mp1,mp1]))))))))))=_;rw[e1,e2,e3,e4,e5,e6,e7,e8,e9,a0]
def wl_set:jd 2 (wl na1 xa1 nd0 xb0 [mp1]) 1=wl na5 xa3 nb4 xb3 []∧jd 2 (wl na1 xa1 nd0 xb0 [mp1]) 2=wl na5 xa3 nb4 xb3 []:=by
 have h1:jd 2 (wl na1 xa1 nd0 xb0 [mp1]) 1=wl na5 xa3 nb4 xb3 []:=by
  show dlvN 2 (advN (wl na1 xa1 nd0 xb0 [mp1]) 2) 400=_;rw[wr,mZ (j:=10) (by rw[sK];rfl) 400 ae,sK]
 refine⟨h1,?_⟩;show dlvN 2 (advN (jd 2 (wl na1 xa1 nd0 xb0 [mp1]) 1) 2) 400=_;rw[h1,Bc,mZ (j:=0) rfl 400 ae];rfl
def JW:jT 2 4 xl:=by
 refine⟨by decide,fun l hl=>?_⟩;rcases List.mem_cons.1 hl with rfl|hl
 ·exact⟨by decide,by decide,⟨by decide,by decide⟩,⟨by decide,by decide⟩,by decide,⟨⟨by decide,by decide,by decide,by decide⟩,by decide,trivial⟩⟩
 ·rw[List.mem_singleton.1 hl];exact⟨by decide,by decide,⟨by decide,by decide⟩,⟨by decide,by decide⟩,by decide,⟨⟨by decide,by decide,by decide,by decide⟩,by decide,trivial⟩⟩
def Em:eZ 0 2 xl 0 9 nd0 xa0=((0,0),[mp1],na1,xa1):=by
 unfold eZ;rw[if_neg (by rintro (h|h);exact absurd h ae;exact h JW),if_neg ae];exact Prod.ext rfl xbeg
def xsp0:(gTry (led0 0 cat22) (esM 0 0 [⟨0,1,0,5,[]⟩])).1=0∧ce (led0 0 cat22) (esM 0 0 [⟨0,1,0,5,[]⟩])=xa0∧SpI 0 1 xa0:=by
 obtain⟨h1,h2⟩:=(SpI.zero (sh:=0) ae).post ae (to:=1) (x:=0) (n:=5) ⟨by decide,by decide,by decide⟩ none;have h3:ce (led0 0 cat22) (esM 0 0 [⟨0,1,0,5,[]⟩])=xa0:=(qv (S:=led0 0 cat22) (s:=esM 0 0 [⟨0,1,0,5,[]⟩]) ae (nu ae ae ae ae ae (qL ae rfl) ae) rfl).2;exact⟨h1,h3,h3▸h2⟩
def xsp1:(gTry (led0 1 cat22) (esM 0 0 [⟨0,2,1,3,[]⟩])).1=0∧ce (led0 1 cat22) (esM 0 0 [⟨0,2,1,3,[]⟩])=xb0∧SpI 1 1 xb0:=by
 obtain⟨h1,h2⟩:=(SpI.zero (sh:=1) ae).post ae (to:=2) (x:=1) (n:=3) ⟨by decide,by decide,by decide⟩ none;have h3:ce (led0 1 cat22) (esM 0 0 [⟨0,2,1,3,[]⟩])=xb0:=(qv (S:=led0 1 cat22) (s:=esM 0 0 [⟨0,2,1,3,[]⟩]) ae (nu ae ae ae ae ae (qL ae rfl) ae) rfl).2;exact⟨h1,h3,h3▸h2⟩
def xwd:WdI 2 63 40 1 0 (wl na1 xa1 nd0 xb0 [mp1]):=by
 have hb:=pu (cat:=cat22) (sh:=0) (shs:=2) (tick:=0) (until_:=9) (ls:=xl) (N:=nd0) (S:=xa0) (b:=8) ae ae (wc xsp0.2.2) ae ae ae ae ae ae;rw[Em] at hb;have hs:=(hb.resolve_left fun q=>q.2 rfl).2;have h1:NdB 1 2 63 40 (nd0,xb0):=⟨wc xsp1.2.2,by decide,by decide⟩;refine⟨by decide,rfl,fun i hi=>?_,hs.ms,aq _,by decide,by decide⟩
 have a0:i=0∨i=1:=by
  have:i<2:=hi;omega
 rcases a0 with rfl|rfl
 ·exact⟨hs.nd,aP hs.bd ae,by decide⟩
 ·exact h1
def HD:∀r,r<2→ua 2 8000000000 0 (jd 2 (wl na1 xa1 nd0 xb0 [mp1]) r):=fun r hr=>by
 have a0:r=0∨r=1:=ab;have m1:∀{W:WdM} {M:Nat},M≤8000000000→ua 2 M 0 W→ua 2 8000000000 0 W:=fun hM h=>⟨fun k hk=>(h.1 k hk).mono (aq _) (aq _) hM (aq _),fun k hk=>(h.2 k hk).mono (aq _) (aq _) hM (aq _)⟩;rcases a0 with rfl|rfl
 ·exact m1 ae (Bl (n:=10) xwd ae ae (by show(dlvN 2 (advN (wl na1 xa1 nd0 xb0 [mp1]) 2) 10).ms=[];rw[wr,sK];rfl))
 ·rw[wl_set.1];have h0:=nL (nQ xwd ae 2 ae) 10 ae;rw[wr,sK] at h0;have h1:WdI 2 63 280 0 0 (wl na5 xa3 nb4 xb3 []):=⟨h0.rng,h0.len,h0.nd,h0.ms,aq _,h0.tick,h0.il⟩;exact m1 ae (Bl (n:=0) h1 ae ae (by show(advN (wl na5 xa3 nb4 xb3 []) 2).ms=[];rw[Bc];rfl))
def JV:nw na5=[]:=by
 unfold nw;rw[nB (N:=na5) (k:=0) rfl]
 have h:gq na5 0=false:=by
  have e1:glk na5.begun 0=some (xe [0,1] [0,1] true):=rfl;have e2:glk na5.parts 0=some (xp 1 lgA 0 2 [2]):=rfl;unfold gq;rw[e1,e2];dsimp only;rw[aW (show ¬ ∃o∈(xp 1 lgA 0 2 [2]).legs,¬o.state=2 from fun⟨o,ho,q⟩=>by rw[List.mem_singleton.1 ho] at q;exact q rfl),aW (show ¬(xe [0,1] [0,1] true).told.length<(xe [0,1] [0,1] true).givers.length by decide),aW (show ¬(xp 1 lgA 0 2 [2]).state=0 by decide)];rfl
 simp[h]
def xstat:jR na5 0=2∧jR nb4 0=2:=⟨rfl,rfl⟩
end
section
open Go.V
attribute [local irreducible] G GO GP GPW GPK GF GE Ev Ef EfR Ent CB GB V.Enters bX delM
def pw{L:LH}(b:Nat)(S:LedM)(k:Nat)(hS:LedG k S)(hk:k≤4096)(a i:Int) :
  Tri Tryz.prog 58 #[ax b,ac a,ac i] (aS b S::L) (rtQ (ac (lsum (S.stk a i))) (aS b S::L)):=by
 refine Tri.bd ?_;refine G.c8 (f:=jb b S) ?_;intro x;simp only[jb,ledL,bW,al,ak];refine G.d7 ?_;intro hF;have hg:=hS.stk a i;have a0:=hF.stk a i;rw[←a0] at hg ⊢;refine G.ent (Ent.at (A:=allP (fun p:(Int×Int)×Stk=>stkP p.2) x.stk) (uZ (a,i))) ?_;refine Ks ?_;intros;refine GO.ev (Ev.f9 rfl rfl) ae ?_;rw[ui];generalize gI x.stk (a,i)=sk at *;simp only[Stk.v];refine Ks ?_;intros;refine GO.cr (nR sk.ad sk.lots.length sk.cap sk.lots rfl (aP hg.len hk) hg.lots) ?_;refine Ks ?_;intros;refine KX.a8 aA ?_ ⟨rfl,rfl⟩;refine Ent.trans ?_ (iU x hF);simp only[ledL,bW];exact ah
def Bf{shs:Int}{s0 s1:SdV}{L:LH}:Ent (bigO (sdF shs) [s0,s1]::L) (ndL s0.nb s0.lb s0.sh shs s0.n (aS s0.lb s0.S::ndL s1.nb s1.lb s1.sh shs s1.n (aS s1.lb s1.S::L))):=by
 refine Ent.bigO_uncons.trans (Ent.openS.trans ?_);show Ent (ndL s0.nb s0.lb s0.sh shs s0.n (aS s0.lb s0.S::bigO (sdF shs) [s1]::L)) _
 have h:Ent (bigO (sdF shs) [s1]::L) (ndL s1.nb s1.lb s1.sh shs s1.n (aS s1.lb s1.S::L)):=by
  refine Ent.bigO_uncons.trans (Ent.openS.trans ?_);show Ent (ndL s1.nb s1.lb s1.sh shs s1.n (aS s1.lb s1.S::bigO (sdF shs) []::L)) _;simp only[ndL,ndC];exact ah
 have h2:Ent (aS s0.lb s0.S::bigO (sdF shs) [s1]::L) (aS s0.lb s0.S::ndL s1.nb s1.lb s1.sh shs s1.n (aS s1.lb s1.S::L)):=Ent.a8 h;simp only[ndL,ndC] at h2 ⊢;repeat first|exact h2|refine Ent.a8 ?_
def Jq{shs:Int}{s0 s1:SdV}{L:LH}:Ent (ndL s0.nb s0.lb s0.sh shs s0.n (aS s0.lb s0.S::ndL s1.nb s1.lb s1.sh shs s1.n (aS s1.lb s1.S::L))) (bigO (sdF shs) [s0,s1]::L):=by
 refine Ent.trans (B:=ndL s1.nb s1.lb s1.sh shs s1.n (aS s1.lb s1.S::ndL s0.nb s0.lb s0.sh shs s0.n (aS s0.lb s0.S::L))) (by simp only[ndL,ndC];exact ah) ?_;refine(Ent.f9 (A:=ndL s1.nb s1.lb s1.sh shs s1.n [aS s1.lb s1.S])).trans ?_;refine Ent.trans (B:=ndL s0.nb s0.lb s0.sh shs s0.n (aS s0.lb s0.S::sdF shs s1::L)) (by simp only[ndL,ndC,sdF];exact ah) ?_;refine(Ent.f9 (A:=ndL s0.nb s0.lb s0.sh shs s0.n [aS s0.lb s0.S])).trans ?_;refine Ent.trans (B:=sdF shs s1::sdF shs s0::L) (by simp only[sdF];exact ah) ?_;exact(Ent.a8 ((Ent.j0 (sdF shs)).trans Ent.swap)).trans ((by exact ah:Ent _ (sdF shs s1::bigO (sdF shs) []::sdF shs s0::L)).trans (Ent.bigO_cons.trans ((by exact ah:Ent _ (sdF shs s0::bigO (sdF shs) [s1]::L)).trans Ent.bigO_cons)))
end
section
open Go.V
def xU{α:Type}{l:List α}(h:l.length=2):∃a b,l=[a,b]:=by
 match l,h with
 | [a,b],_=>exact⟨a,b,rfl⟩
def Hb{α:Type}{l:List α}(h:l.length=1):∃a,l=[a]:=by
 match l,h with
 | [a],_=>exact⟨a,rfl⟩
def legS{l:LegV}{ad:OA}{cap:Nat}{am:List (Int×Int)}{L:LH}(h:legP l=isl cy 2 ad am):Ent (osl cy 2 tAm ad cap am::L) (legP l::L):=by
 rw[h];exact Ent.freezeSl
attribute [local irreducible] G GO GP GPW GPK GF GE Ev Ef EfR Ent CB GB V.Enters bX delM
def DF{L:LH} :
  Tri Tryz.prog 20 #[] (cD::L) (rtQ (.bool true) (cD::L)):=by
 refine Tri.bd ?_;refine Ks ?_;intros;refine GO.ent (L':=cD::isl (encZ .i64) 1 none []::L) ((Ent.d9 (encZ .i64) 1 none).trans ah) ?_;refine GO.ca (te 2 ae none 0 0 [] rfl (aq 0) (fun x hx=>absurd hx ay)) ?_;rintro _ _⟨wb,W,rfl,hW,rfl⟩;obtain⟨sds,lad,lcap,nad,ncap,msl,mad,mcap,tick,ids,iad,icap⟩:=W;obtain⟨q1,q2,q3,q4,q5⟩:=hW;dsimp only at q1 q2 q3 q4 q5;subst q3 q4 q5;obtain⟨s0,s1,rfl⟩:=xU (ab:sds.length=2);have h0:=q2 0 (by show 0<2;decide);have h1:=q2 1 (by show 1<2;decide);rw[show([s0,s1]:List SdV)[0]! = s0 from rfl] at h0;rw[show([s0,s1]:List SdV)[1]! = s1 from rfl] at h1;obtain⟨a9,a0,b1,n0,S0⟩:=s0;obtain⟨nb1,a7,b5,n1,S1⟩:=s1;obtain⟨a1,a2,a3,a4⟩:=h0;obtain⟨c1,c2,c3,c4⟩:=h1;dsimp only at a1 a2 a3 a4 c1 c2 c3 c4;have a6:b1=0:=a1;have a5:S0=led0 0 cat22:=a4 rfl;have c6:b5=1:=c1;have c5:S1=led0 1 cat22:=c4 rfl;clear a1 c1 a4 c4;subst a6 c6 a5 c5;have a3:SpI 0 8 (led0 0 cat22):=a3;have c3:SpI 1 8 (led0 1 cat22):=c3;simp only[wdL,wdC,aF,bG,aM,bz];refine Ks ?_;intros;rename_i bm;rw[show([a0,a7]:List Nat)[Int.toNat 0]! = a0 from rfl];refine GO.ent (Ent.at (A:=bigO (sdF 2) [⟨a9,a0,0,n0,led0 0 cat22⟩,⟨nb1,a7,1,n1,led0 1 cat22⟩]) Bf) ?_;simp only[ndL,ndC];have h5:=a3.k;have h6:=c3.k;refine GO.ent ((Ent.at (A:=obj bm tMv [ac 0,ac 1,ac 0,ac 5,ag none 0 0]) (Ent.f7 (enc:=cj) (sz:=5) (xs:=(spS 1 0 5 (some ⟨bm,0,none⟩)).moves) (n:=1) rfl rfl (by intro y hy;rfl) ae)).trans (Ent.freezeSl.trans ((Ent.d9 aG 3 none).trans (Ent.d8 (f:=mvP) (x:=(⟨⟨0,1,0,5,[]⟩,none,0⟩:MvV)) kl)))) ?_;have hin:=wE 1 0 5 (some ⟨bm,0,none⟩);refine GO.ent ((Ent.at (A:=isl cj 5 (some ⟨bm,0,none⟩) (spS 1 0 5 (some ⟨bm,0,none⟩)).moves) (Ent.refl _)).trans (Ent.at (A:=aS a0 (led0 0 cat22)) (Ent.refl _))) ?_;refine GO.ca (kO a0 (led0 0 cat22) (kOf (led0 0 cat22)) a3.led.a (by rw[a3.led.cat];exact a3.led.ok) a3.led.now (spS 1 0 5 (some ⟨bm,0,none⟩)) hin.1 hin.2 (by show kOf (led0 0 cat22)+1≤2000;omega) sY) ?_;rw[show(spS 1 0 5 (some ⟨bm,0,none⟩)).m=esM 0 0 [⟨0,1,0,5,[]⟩] from rfl,xsp0.1,xsp0.2.1];generalize gRes (led0 0 cat22) (esM 0 0 [⟨0,1,0,5,[]⟩])=r0;rintro _ _⟨rfl,rfl⟩;refine Ks ?_;intros;rename_i b2;rw[show([a0,a7]:List Nat)[Int.toNat 1]! = a7 from rfl];refine GO.ent ((Ent.at (A:=obj b2 tMv [ac 0,ac 2,ac 1,ac 3,ag none 0 0]) (Ent.f7 (enc:=cj) (sz:=5) (xs:=(spS 2 1 3 (some ⟨b2,0,none⟩)).moves) (n:=1) rfl rfl (by intro y hy;rfl) ae)).trans (Ent.freezeSl.trans ((Ent.d9 aG 3 none).trans (Ent.d8 (f:=mvP) (x:=(⟨⟨0,2,1,3,[]⟩,none,0⟩:MvV)) kl)))) ?_;have b3:=wE 2 1 3 (some ⟨b2,0,none⟩);refine GO.ent ((Ent.at (A:=isl cj 5 (some ⟨b2,0,none⟩) (spS 2 1 3 (some ⟨b2,0,none⟩)).moves) (Ent.refl _)).trans (Ent.at (A:=aS a7 (led0 1 cat22)) (Ent.refl _))) ?_;refine GO.ca (kO a7 (led0 1 cat22) (kOf (led0 1 cat22)) c3.led.a (by rw[c3.led.cat];exact c3.led.ok) c3.led.now (spS 2 1 3 (some ⟨b2,0,none⟩)) b3.1 b3.2 (by show kOf (led0 1 cat22)+1≤2000;omega) sY) ?_;rw[show(spS 2 1 3 (some ⟨b2,0,none⟩)).m=esM 0 0 [⟨0,2,1,3,[]⟩] from rfl,xsp1.1,xsp1.2.1];generalize gRes (led0 1 cat22) (esM 0 0 [⟨0,2,1,3,[]⟩])=r1;rintro _ _⟨rfl,rfl⟩;refine Ks ?_;intros;rename_i ba bb bl;rw[show([a9,nb1]:List Nat)[Int.toNat 0]! = a9 from rfl];obtain⟨la,c0⟩:∃l:LegV,(⟨lgA,some ⟨ba,0,none⟩,1⟩:LegV)=l:=⟨_,rfl⟩;obtain⟨lb,d0⟩:∃l:LegV,(⟨lgB,some ⟨bb,0,none⟩,1⟩:LegV)=l:=⟨_,rfl⟩;refine GO.ent (L':=ndL a9 a0 0 2 n0 (aS a0 xa0::(ndL nb1 a7 1 2 n1 (aS a7 xb0::obj wb tWd [ag lad (0+1+1) lcap,ag nad (0+1+1) ncap,ag mad 0 mcap,ac 0,ag iad 0 icap]::isl dz 1 lad [a0,a7]::isl dz 1 nad [a9,nb1]::tsl bC 3 tMs mad mcap []::allP msP []::osl (encZ .i64) 1 tInt iad icap []::cD::osl cy 2 tAm (some ⟨ba,0,none⟩) 1 [(0,5)]::osl cy 2 tAm (some ⟨bb,0,none⟩) 1 [(1,3)]::osl bA 5 tLeg (some ⟨bl,0,none⟩) 2 [la,lb]::L)))) ?_ ?_
 ·refine(Ent.at (A:=obj ba tAm [ac 0,ac 5]) (Ent.f7 (enc:=cy) (sz:=2) (xs:=[(0,5)]) (n:=1) rfl rfl (by intro y hy;rfl) ae)).trans ?_;refine(Ent.at (A:=obj bb tAm [ac 1,ac 3]) (Ent.f7 (enc:=cy) (sz:=2) (xs:=[(1,3)]) (n:=1) rfl rfl (by intro y hy;rfl) ae)).trans ?_;refine(Ent.at (A:=obj bl tLeg [ac 0,ac 1,ac 1,ac 2,ag (some ⟨ba,0,none⟩) 1 1,ac 1,ac 2,ac 0,ac 1,ag (some ⟨bb,0,none⟩) 1 1]) (Ent.f7 (enc:=bA) (sz:=5) (xs:=[la,lb]) (n:=2) (by rw[←c0,←d0];rfl) rfl (by intro y hy;rfl) ae)).trans ?_;simp only[ndL,ndC];exact ah
 have e1:la.m=lgA:=by rw[←c0]
 have e2:lb.m=lgB:=by rw[←d0]
 have d1:[la,lb].map (·.m)=xl:=by rw[aF,aF,bG,e1,e2];rfl
 refine GO.ent (L':=isl bA 5 (some ⟨bl,0,none⟩) [la,lb]::allP legP [la,lb]::ndL a9 a0 0 2 n0 (aS a0 xa0::(ndL nb1 a7 1 2 n1 (aS a7 xb0::obj wb tWd [ag lad (0+1+1) lcap,ag nad (0+1+1) ncap,ag mad 0 mcap,ac 0,ag iad 0 icap]::isl dz 1 lad [a0,a7]::isl dz 1 nad [a9,nb1]::tsl bC 3 tMs mad mcap []::allP msP []::osl (encZ .i64) 1 tInt iad icap []::cD::L)))) ?_ ?_
 ·simp only[ndL,ndC];refine(Ent.at (A:=osl bA 5 tLeg (some ⟨bl,0,none⟩) 2 [la,lb]) Ent.freezeSl).trans ?_;refine(Ent.at (A:=osl cy 2 tAm (some ⟨bb,0,none⟩) 1 [(1,3)]) ((legS (l:=lb) (by rw[←d0];rfl)).trans (Ent.d8 (f:=legP) fC))).trans ?_;refine(Ent.at (A:=osl cy 2 tAm (some ⟨ba,0,none⟩) 1 [(0,5)]) (legS (l:=la) (by rw[←c0];rfl))).trans ?_;refine Ent.trans (B:=legP la::allP legP [lb]::(isl bA 5 (some ⟨bl,0,none⟩) [la,lb]::ndL a9 a0 0 2 n0 (aS a0 xa0::(ndL nb1 a7 1 2 n1 (aS a7 xb0::obj wb tWd [ag lad (0+1+1) lcap,ag nad (0+1+1) ncap,ag mad 0 mcap,ac 0,ag iad 0 icap]::isl dz 1 lad [a0,a7]::isl dz 1 nad [a9,nb1]::tsl bC 3 tMs mad mcap []::allP msP []::osl (encZ .i64) 1 tInt iad icap []::cD::L))))) (by simp only[ndL,ndC];exact ah) ?_;refine(Ent.j5 (f:=legP) fC).trans ?_;simp only[ndL,ndC];exact ah
 have e6:NdA cat22 0 2 n0.m xa0:=by rw[a2];exact wc xsp0.2.2
 have f1:n0.cnt=0:=by have e:=congrArg NdM.cnt a2;exact e
 have f0:∀l∈[la,lb],l.m.am.length≤1000:=fun l hl=>by
  rcases List.mem_cons.1 hl with rfl|hl
  ·rw[e1];decide
  ·rw[List.mem_singleton.1 hl,e2];decide
 have f6:kOf xa0+pot n0.m+2*amT ([la,lb].map (·.m))≤2000:=by
  rw[d1,a2];have:=xsp0.2.2.k
  show kOf xa0+0+2*2≤2000;omega
 have f4:glk n0.m.begun (0*4294967296+n0.cnt)=none:=by rw[a2,f1];rfl
 have d3:=fun M:LH=>tX (L:=M) a9 a0 0 2 ae n0 xa0 cat22 e6.hin (by show cat22.items.length≤64;decide) (by rw[f1];decide) (some ⟨bl,0,none⟩) 2 2 [la,lb] rfl (by show 2≤1000;decide) f0 0 9 f6 f4;rw[d1,a2,Em] at d3;refine GO.ca (d3 _) ?_;rintro _ _⟨b8,b0,ds,n2,rfl,b9,g5,rfl⟩;dsimp only at b9 g5
 obtain⟨d,rfl⟩:∃d,ds=[d]:=by
  have hl:=congrArg List.length b9;rw[an] at hl;exact Hb hl
 have hd:d.m=mp1:=by have e:=b9;rw[aF,bG] at e;exact(List.cons.inj e).1
 simp only[ndL,ndC,aM,bz];clear d3 f0 f6 f4 e6 c0 d0 e1 e2 d1 hin b3 q1 q2 b9;have e7:NdB 0 2 63 40 (na1,xa1):=xwd.at ae;have h3:NdB 1 2 63 40 (nd0,xb0):=xwd.at ae;have f5:=e7.a.hin.led.a.g;have g6:=e7.bd;dsimp only at f5 g6;refine Ks ?_;intros;refine GB.neg (fun h=>h (by show d.m.to=1;rw[hd];rfl)) ?_;refine Ks ?_;intros;rw[show([a0,a7]:List Nat)[Int.toNat 0]! = a0 from rfl];refine GO.ent (Ent.at (A:=aS a0 xa1) (Ent.refl _)) ?_;refine GO.ca (pw a0 xa1 (kOf xa1) f5 ab 1 0) ?_;rw[xbal.1];rintro _ _⟨rfl,rfl⟩;refine Ks ?_;intros;obtain⟨W0,d2⟩:∃W:WdV,(⟨[⟨a9,a0,0,n2,xa1⟩,⟨nb1,a7,1,n1,xb0⟩],lad,lcap,nad,ncap,[d],b8,b0,0,[],iad,icap⟩:WdV)=W:=⟨_,rfl⟩
 have d6:W0.m=wl na1 xa1 nd0 xb0 [mp1]:=by
  rw[←d2];simp only[WdV.m,aF,bG,SdV.m,g5,c2,hd];rfl
 have b7:ShOk W0:=by
  rw[←d2];intro i hi;have h4:i<2:=hi;rcases (ab:i=0∨i=1) with rfl|rfl<;>rfl
 refine GO.ent (L':=wdL wb 2 W0 (cD::L)) ?_ ?_
 ·rw[←d2];simp only[wdL,wdC,aF,bG,aM,bz];refine(Ent.at (A:=osl bC 3 tMs b8 b0 [d]) (Ent.k9)).trans ?_;refine Ent.trans (B:=ndL a9 a0 0 2 n2 (aS a0 xa1::ndL nb1 a7 1 2 n1 (aS a7 xb0::(obj wb tWd [ag lad (0+1+1) lcap,ag nad (0+1+1) ncap,ag b8 (0+1) b0,ac 0,ag iad 0 icap]::isl dz 1 lad [a0,a7]::isl dz 1 nad [a9,nb1]::tsl bC 3 tMs b8 b0 [d]::allP msP [d]::osl (encZ .i64) 1 tInt iad icap []::cD::L)))) (by simp only[ndL,ndC];exact ah) ?_;refine(Jq (s0:=⟨a9,a0,0,n2,xa1⟩) (s1:=⟨nb1,a7,1,n1,xb0⟩)).trans ?_;exact ah
 have b4:=fun M:LH=>zt (L:=M) wb 2 W0 b7 2 ae (M:=8000000000) (T:=0) ae (by rw[d6];exact xwd.mono (aq _) ae ae (aq _)) (fun r hr=>by rw[d6];exact HD r hr);rw[d6,wl_set.2] at b4;refine GO.ca (b4 _) ?_;rintro _ _⟨W',rfl,⟨g0,g7⟩,rfl⟩;obtain⟨sds,lad,lcap,nad,ncap,msl,mad,mcap,tick,ids,iad,icap⟩:=W';have b6:sds.map SdV.m=[(na5,xa3),(nb4,xb3)]:=congrArg WdM.nds g0;obtain⟨s0,s1,rfl⟩:=xU (show sds.length=2 by have e:=congrArg List.length b6;rw[an] at e;exact e);obtain⟨a9,a0,b1,m0,S0⟩:=s0;obtain⟨nb1,a7,b5,m1,S1⟩:=s1;rw[aF,aF,bG] at b6;have e0:=(List.cons.inj b6).1;have e4:=(List.cons.inj (List.cons.inj b6).2).1;have g1:m0.m=na5:=congrArg Prod.fst e0;have g2:S0=xa3:=congrArg Prod.snd e0;have g3:m1.m=nb4:=congrArg Prod.fst e4;have g4:S1=xb3:=congrArg Prod.snd e4;subst g2 g4;clear g0 g7 b4 b7 b6 e0 e4;simp only[wdL,wdC,aF,bG,aM,bz];refine GO.ent ((Ent.at (A:=bigO (sdF 2) [⟨a9,a0,b1,m0,xa3⟩,⟨nb1,a7,b5,m1,xb3⟩]) Bf).trans (Ent.trans (B:=ndL a9 a0 b1 2 m0 (aS a0 xa3::ndL nb1 a7 b5 2 m1 (aS a7 xb3::obj wb tWd [ag lad (0+1+1) lcap,ag nad (0+1+1) ncap,ag mad msl.length mcap,ac tick,ag iad ids.length icap]::isl dz 1 lad [a0,a7]::isl dz 1 nad [a9,nb1]::cD::L))) (by simp only[ndL,ndC];exact ah) (Ent.refl _))) ?_;simp only[ndL,ndC]
 have hF:WdI 2 63 1900 8000000000 0 (wl na5 xa3 nb4 xb3 []):=by
  have q:=(HD 1 ae).1 0 ae;rw[wl_set.1] at q;exact q
 have e8:NdB 0 2 63 1900 (na5,xa3):=hF.at ae;have e9:NdB 1 2 63 1900 (nb4,xb3):=hF.at ae;have f2:=e8.a.hin.led.a.g;have f3:=e9.a.hin.led.a.g;have d4:=e8.bd;have d5:=e9.bd;dsimp only at f2 f3 d4 d5
 have e5:∀p∈m0.parts,p.2.legs.length≤1000:=fun p hp=>by
  have q:(p.1,p.2.m)∈na5.parts:=by rw[←g1];exact List.mem_map.2 ⟨p,hp,rfl⟩
  have e:=List.mem_singleton.1 q;have e2:=congrArg (fun x:Int×PtM=>x.2.legs.length) e;have e3:p.2.legs.length=1:=(an _).symm.trans e2;omega
 refine Ks ?_;intros;rw[show([a9,nb1]:List Nat)[Int.toNat 0]! = a9 from rfl];refine GO.ca (ro a9 a0 b1 2 m0 0) ?_;rw[g1,xstat.1];rintro _ _⟨rfl,rfl⟩;simp only[ndL,ndC];refine Ks ?_;intros;rw[show([a9,nb1]:List Nat)[Int.toNat 1]! = nb1 from rfl];refine GO.ent (L':=ndL nb1 a7 b5 2 m1 (aS a7 xb3::ndL a9 a0 b1 2 m0 (aS a0 xa3::obj wb tWd [ag lad (0+1+1) lcap,ag nad (0+1+1) ncap,ag mad msl.length mcap,ac tick,ag iad ids.length icap]::isl dz 1 lad [a0,a7]::isl dz 1 nad [a9,nb1]::cD::L))) (by simp only[ndL,ndC];exact ah) ?_;refine GO.ca (ro nb1 a7 b5 2 m1 0) ?_;rw[g3,xstat.2];rintro _ _⟨rfl,rfl⟩;simp only[ndL,ndC];refine Ks ?_;intros;rw[show([a0,a7]:List Nat)[Int.toNat 0]! = a0 from rfl];refine GO.ent (Ent.at (A:=aS a0 xa3) (Ent.refl _)) ?_;refine GO.ca (pw a0 xa3 (kOf xa3) f2 ab 1 1) ?_;rw[xbal.2.1];rintro _ _⟨rfl,rfl⟩;refine Ks ?_;intros;rw[show([a0,a7]:List Nat)[Int.toNat 1]! = a7 from rfl];refine GO.ent (Ent.at (A:=aS a7 xb3) (Ent.refl _)) ?_;refine GO.ca (pw a7 xb3 (kOf xb3) f3 ab 2 0) ?_;rw[xbal.2.2];rintro _ _⟨rfl,rfl⟩;refine Ks ?_;intros;rw[show([a9,nb1]:List Nat)[Int.toNat 0]! = a9 from rfl];refine GO.ent (L':=ndL a9 a0 b1 2 m0 (cD::L)) (by simp only[ndL,ndC];exact ah) ?_;refine GO.ca (EZ a9 a0 b1 2 m0 (by rw[show m0.begun.length=na5.begun.length by rw[←g1];exact(an _).symm];decide) (by rw[show m0.parts.length=na5.parts.length by rw[←g1];exact(an _).symm];decide) e5) ?_;rw[g1,JV];rintro _ _⟨h7,h2,rfl,rfl⟩;simp only[ndL,ndC];refine Ks ?_;intros;refine KX.a8 aA ?_ ⟨by rw[bE (show(([]:List Int).length:Int)=0 from rfl)];rfl,rfl⟩;exact ah
end
section
open Go.V
def sgK(k:Int):Int:=if k=0∨k=5 then 1 else if k=1∨k=6 then -1 else 0
def sgF(x:Int)(f:FlM):Int:=if f.item=x then sgK f.kind*f.n else 0
def sgS(x:Int)(fl:List FlM):Int:=(fl.map (sgF x)).sum
def uj(x:Int)(a b:List FlM):sgS x (a++b)=sgS x a+sgS x b:=by
 unfold sgS;rw[aJ,ec]
def wM(x:Int)(f:FlM)(b:List FlM):sgS x (f::b)=sgF x f+sgS x b:=by
 unfold sgS;rw[aF,cq]
def fsI(k:Int):Int→List MvM→List FlM→Prop
 | _,[],F=>F=[]
 | id,m::ms,F=>∃f F',F=f::F'∧(f.id=id∧f.kind=k∧f.item=m.item∧f.n=m.n∧(k=5→f.parts=m.parts))∧fsI k (id+1) ms F'
def DO{sh:Int}{fl:List FlM}{mix:Int→Bool}{s:StM}{W:Wk}{m:MvM}(h:(db sh fl mix s W m).1=0):(db sh fl mix s W m).2.flows=W.flows++[fE sh fl.length mix s W m]∧(db sh fl mix s W m).2.tot=upd W.tot m.item (ew W m):=by
 unfold db at h ⊢;split at h
 ·rename_i q;exact absurd h q
 rename_i q;rw[if_neg q];split at h
 ·exact absurd (show(4:Int)=0 from h) ae
 rename_i q2;rw[if_neg q2];split at h
 ·rename_i q3;rw[if_pos q3];exact⟨rfl,rfl⟩
 rename_i q3;rw[if_neg q3];split at h
 ·exact absurd (show(4:Int)=0 from h) ae
 rename_i q4;rw[if_neg q4];exact⟨rfl,rfl⟩
def Fd{k:Int}{W:Wk}{m:MvM}(hk:¬(k=7∨k=9))(he:jk k m)(hn:m.frm≠m.to):ew W m=W.tot m.item+sgK k*m.n:=by
 unfold jk at he;unfold ew sgK;by_cases h1:k=0∨k=5
 ·rw[if_pos h1] at he ⊢;rw[if_pos he,if_neg ab];omega
 rw[if_neg h1] at he ⊢;by_cases h2:k=1∨k=6
 ·rw[if_pos h2] at he ⊢;rw[if_pos he,if_neg ab];omega
 rw[if_neg h2] at he ⊢;rw[if_neg ab,if_neg ab] at he;rw[if_neg ab,if_neg ab];omega
def vy{sh:Int}{fl:List FlM}{mix:Int→Bool}{s:StM}(hk:¬(s.kind=7∨s.kind=9)):∀(ms:List MvM) (W:Wk),(dP sh fl mix s W ms).1=0→(∀m∈ms,jk s.kind m∧m.frm≠m.to)→∃F,(dP sh fl mix s W ms).2.flows=W.flows++F∧fsI s.kind (eU sh fl.length W) ms F∧∀x,(dP sh fl mix s W ms).2.tot x=W.tot x+sgS x F
 | [],W,_,_=>⟨[],(aH _).symm,rfl,fun x=>(Int.add_zero _).symm⟩
 | m::ms,W,h,hm=>by
  have e:dP sh fl mix s W (m::ms)=if(db sh fl mix s W m).1=0 then dP sh fl mix s (db sh fl mix s W m).2 ms else((db sh fl mix s W m).1,W):=rfl;rw[e] at h ⊢;by_cases h0:(db sh fl mix s W m).1=0
  case neg =>
   rw[if_neg h0] at h;exact absurd h h0
  rw[if_pos h0] at h ⊢;obtain⟨f1,f2⟩:=DO h0;obtain⟨he,a0⟩:=hm m av;obtain⟨F,g1,g2,g3⟩:=vy hk ms (db sh fl mix s W m).2 h fun y hy=>hm y (au _ hy);refine⟨fE sh fl.length mix s W m::F,?_,⟨_,F,rfl,⟨rfl,rfl,rfl,rfl,fun h5=>?_⟩,?_⟩,fun x=>?_⟩
  ·rw[g1,f1,aB];rfl
  ·show gPts mix s W m=m.parts;unfold jk at he;rw[if_pos (.inr h5)] at he;unfold gPts;rw[if_pos he,if_pos (.inl h5)]
  ·have e2:eU sh fl.length (db sh fl mix s W m).2=eU sh fl.length W+1:=by
    unfold eU;rw[f1,aj,aI];omega
   rw[←e2];exact g2
  ·rw[g3,f2,wM];have e3:upd W.tot m.item (ew W m) x=if x=m.item then ew W m else W.tot x:=rfl;rw[e3];unfold sgF;show _=W.tot x+((if m.item=x then sgK s.kind*m.n else 0)+sgS x F);by_cases hx:x=m.item
   ·rw[if_pos hx,if_pos hx.symm,Fd hk he a0,hx];omega
   ·rw[if_neg hx,if_neg fun q=>hx q.symm];omega
def Iw{S:LedM}{s:StM}(h:(gTry S s).1=0)(hk:¬(s.kind=4∨s.kind=10∨s.kind=7∨s.kind=9)):∃F,(ce S s).flows=S.flows++F∧fsI s.kind (S.shard*4294967296+S.flows.length) s.moves F∧(∀x,(ce S s).tot x=S.tot x+sgS x F)∧∀m∈s.moves,0≤m.item∧m.item<S.cat.items.length:=by
 have hp:=jg h;have he:=uB h;have h3:=h;rw[he] at h3;have hw:=hp.2.2.2.2.2;unfold pJ at hw;rw[if_neg ab,if_neg ab] at hw;obtain⟨F,f1,f2,f3⟩:=vy (s:=s.at (cV S)) (by show ¬(s.kind=7∨s.kind=9);omega) s.moves (wk0 S) h3 fun m hm=>⟨hw.1 m hm,(hp.2.2.2.2.1 m hm).1.2.2.1⟩;refine⟨F,?_,?_,fun x=>?_,fun m hm=>(hp.2.2.2.2.1 m hm).1.1⟩
 ·rw[show ce S s=fV S s from if_pos h];show S.flows++(gTry S s).2.flows=_;rw[he,f1];rfl
 ·have e:eU S.shard S.flows.length (wk0 S)=S.shard*4294967296+S.flows.length:=by
   show S.shard*4294967296+(S.flows.length:Int)+((0:Nat):Int)=_;omega
  rw[e] at f2;exact f2
 ·rw[show ce S s=fV S s from if_pos h];show(gTry S s).2.tot x=_;rw[he,f3];rfl
def idsF(id:Int):Nat→List Int
 | 0=>[]
 | n+1=>id::idsF (id+1) n
def yg(id:Int):∀n,(idsF id n).length=n
 | 0=>rfl
 | n+1=>by rw[idsF,aM,yg (id+1) n]
def sf{x:Int}:∀{n:Nat} {id:Int},x∈idsF id n→id≤x∧x<id+n
 | 0,_,h=>by cases h
 | n+1,id,h=>by
  rcases List.mem_cons.1 h with rfl|h
  ·omega
  ·have:=sf h
   omega
def tJ:∀(n:Nat) (id:Int),(idsF id n).Nodup
 | 0,_=>dY
 | n+1,id=>List.nodup_cons.2 ⟨fun h=>by have:=sf h;omega,tJ n (id+1)⟩
def expL(fl:List FlM):LL:=(fl.filter fun f=>decide (f.kind=6)).map fun f=>(f.id,0,f.n)
def lH(am:List (Int×Int))(fl:List Int):LL:=(am.zip fl).map fun p=>(p.2,0,p.1.2)
def lB(a b:List FlM):expL (a++b)=expL a++expL b:=by
 unfold expL;rw[cI,aJ]
def jU(a b:List FlM):cz (a++b)=cz a++cz b:=by
 unfold cz;rw[cI,cl]
def uD{k:Int}:∀{ms:List MvM} {id:Int} {F:List FlM},fsI k id ms F→F.map (·.id)=idsF id ms.length
 | [],_,_,h=>by rw[show _=[] from h];rfl
 | m::ms,id,_,⟨f,F',h1,h2,h3⟩=>by
  rw[h1,aF,uD h3,h2.1];rfl
def om{k:Int}:∀{ms:List MvM} {id:Int} {F:List FlM},fsI k id ms F→∀f∈F,f.kind=k∧∃m∈ms,f.item=m.item
 | [],_,_,h,f,hf=>by rw[show _=[] from h] at hf;cases hf
 | m::ms,id,_,⟨g,F',h1,h2,h3⟩,f,hf=>by
  rw[h1] at hf;rcases List.mem_cons.1 hf with rfl|hf
  ·exact⟨h2.2.1,m,av,h2.2.2.1⟩
  ·obtain⟨q1,y,q2,q3⟩:=om h3 f hf;exact⟨q1,y,au _ q2,q3⟩
def BQ{id:Int}{h:Int}:∀{am:List (Int×Int)} {id:Int} {F:List FlM},fsI 6 id (mvsN h 0 am) F→expL F=lH am (F.map (·.id))
 | [],_,_,h=>by rw[show _=[] from h];rfl
 | a::am,id,_,⟨f,F',h1,h2,h3⟩=>by
  have ih:=BQ (id:=id) h3
  have e:expL (f::F')=(f.id,0,f.n)::expL F':=by
   unfold expL;rw[cB (by rw[h2.2.1];rfl),aF]
  rw[h1,e,ih,aF,h2.2.2.2.1];rfl
def BP{to:Int}:∀{am:List (Int×Int)} {fl:List Int} {id:Int} {F:List FlM},fsI 5 id (impM to am fl) F→cz F=lH am fl
 | [],fl,_,_,h=>by rw[show _=[] from h];rfl
 | a::am,[],_,_,h=>by rw[show _=[] from h];rfl
 | a::am,x::fl,id,_,⟨f,F',h1,h2,h3⟩=>by
  have ih:=BP (am:=am) (fl:=fl) h3
  have e:cz (f::F')=f.parts++cz F':=by
   unfold cz;rw[cB (by rw[h2.2.1];rfl),aO]
  rw[h1,e,ih,h2.2.2.2.2 rfl];rfl
def yB{F:List FlM}(h:∀f∈F,¬f.kind=6):expL F=[]:=by
 unfold expL;rw[List.filter_eq_nil_iff.2 fun f hf=>by simpa using h f hf];rfl
def se{F:List FlM}(h:∀f∈F,¬f.kind=5):cz F=[]:=by
 unfold cz;rw[List.filter_eq_nil_iff.2 fun f hf=>by simpa using h f hf];rfl
def uC{k:Int}{ms:List MvM}{id:Int}{F:List FlM}(h:fsI k id ms F):F.length=ms.length:=by
 have e:=congrArg List.length (uD h);rw[an,yg] at e;exact e
def By:∀ms:List MvM,ms.length≤mvK ms
 | []=>aq _
 | m::ms=>by
  have:=By ms
  show ms.length+1≤(m.parts.length+1)+mvK ms;omega
structure LedJ (sh:Int) (S:LedM):Prop where
 shd:S.shard=sh
 cat:S.cat.items.length=4
 fb:S.flows.length≤64*S.steps.length∧S.steps.length≤65536
 fk:S.flows.length≤kOf S
 tot:∀x,S.tot x=sgS x S.flows
 item:∀f∈S.flows,0≤f.item∧f.item<4
structure LedX2 (sh:Int) (S S' : LedM) (kind:Int) (ms:List MvM) (F:List FlM):Prop where
 fl:S'.flows=S.flows++F
 fs:fsI kind (sh*4294967296+S.flows.length) ms F
 j:LedJ sh S'
def xY{sh:Int}{S:LedM}{s:StM}(hJ:LedJ sh S)(h:(gTry S s).1=0)(hk:¬(s.kind=4∨s.kind=10∨s.kind=7∨s.kind=9)):∃F,LedX2 sh S (ce S s) s.kind s.moves F:=by
 obtain⟨F,f1,f2,f3,f4⟩:=Iw h hk;have hp:=jg h;have hl:=uC f2;have hm:=hp.2.2.2.1.2
 have a1:S.steps.length<65536:=by
  by_cases q:65536≤S.steps.length
  ·unfold gTry at h;rw[if_pos q] at h;exact absurd (show(4:Int)=0 from h) ae
  ·omega
 have a0:=hJ.fb;have e1:(ce S s).steps=S.steps++[s.at (cV S)]:=by rw[show ce S s=fV S s from if_pos h];rfl
 have e2:(ce S s).shard=S.shard:=by rw[show ce S s=fV S s from if_pos h];rfl
 have e3:(ce S s).cat=S.cat:=by rw[show ce S s=fV S s from if_pos h];rfl
 rw[hJ.shd] at f2;refine⟨F,f1,f2,⟨e2.trans hJ.shd,by rw[e3];exact hJ.cat,?_,?_,fun x=>?_,fun f hf=>?_⟩⟩
 ·rw[f1,e1,aj,aj,aI];omega
 ·have:=hJ.fk
  have:=By s.moves
  rw[f1,aj,kz,if_pos h];omega
 ·rw[f3,f1,uj,hJ.tot]
 ·rw[f1] at hf;rcases List.mem_append.1 hf with hf|hf
  ·exact hJ.item f hf
  ·obtain⟨_,m,hm,e⟩:=om f2 f hf;have:=f4 m hm
   have:=hJ.cat
   rw[e];omega
def qk{sh:Int}{S:LedM}{s:StM}(hJ:LedJ sh S)(hk:¬(s.kind=4∨s.kind=10∨s.kind=7∨s.kind=9))(h5:¬s.kind=5)(h6:¬s.kind=6):LedJ sh (ce S s)∧expL (ce S s).flows=expL S.flows∧cz (ce S s).flows=cz S.flows∧S.flows.length≤(ce S s).flows.length:=by
 by_cases h:(gTry S s).1=0
 ·obtain⟨F,hF⟩:=xY hJ h hk;refine⟨hF.j,?_,?_,?_⟩
  ·rw[hF.fl,lB,yB (F:=F) (fun f hf=>by rw[(om hF.fs f hf).1];exact h6),aH]
  ·rw[hF.fl,jU,se (F:=F) (fun f hf=>by rw[(om hF.fs f hf).1];exact h5),aH]
  ·rw[hF.fl,aj];omega
 ·rw[show ce S s=S from if_neg h];exact⟨hJ,rfl,rfl,aq _⟩
def Fk{sh:Int}{S:LedM}{kind tick:Int}{ms:List MvM}(hJ:LedJ sh S)(h:gOk S kind tick ms=true)(hk:¬(kind=4∨kind=10∨kind=7∨kind=9)):∃F,LedX2 sh S (gAft S kind tick ms) kind ms F∧gIds S kind tick ms=idsF (sh*4294967296+S.flows.length) ms.length∧F.map (·.id)=gIds S kind tick ms:=by
 have h0:(gTry S (esM kind tick ms)).1=0:=by
  by_cases q:(gTry S (esM kind tick ms)).1=0
  ·exact q
  ·unfold gOk at h;rw[aW q] at h;cases h
 obtain⟨F,hF⟩:=xY (s:=esM kind tick ms) hJ h0 hk
 have e:gIds S kind tick ms=F.map (·.id):=by
  unfold gIds kV;rw[if_pos h0,hF.fl,List.drop_left]
 exact⟨F,hF,e.trans (uD hF.fs),e.symm⟩
