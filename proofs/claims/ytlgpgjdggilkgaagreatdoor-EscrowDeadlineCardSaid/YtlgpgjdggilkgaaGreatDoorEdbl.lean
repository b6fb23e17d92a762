/- Lemmas. -/
import Derived.Test.YtlgpgjdggilkgaaGreatDoorEdbk
set_option linter.all false
set_option maxHeartbeats 16000000
namespace Go.Proofs.YtlgpgjdggilkgaaGreatDoor
section
open Go.V
theorem wU{F:Int}{c b ο an:Nat}{W:jA}(h:F1 F c b ο an W)(hb:b<=2000){k:Int}(hk:0<=k/\k<F):F1 F c b (ο+600000000) an (Pm W k):=by
 have hN:=h.at hk;have hr:=lm (B:=W.B) hk h.MY.2 hN.a hN.bd hb;exact h.send hk ⟨hr.nd,hr.bd,by have e:=hr.ν;have:=hN.ν;grind⟩ hr.O hr.len
theorem wQ{F:Int}{c b ο an:Nat}{W:jA}(h:F1 F c b ο an W)(hb:b+24<=2000):F1 F c (b+24) (ο+3300) an (Nv F W):=by
 unfold Nv;cases hm:W.O with
 | nil=>exact h.mono D D D D
 | cons m O =>
  have M:=h.O m ah;have hN:=h.at M.x.to;have hr:=oH (B:=W.B) M.x.to hN.a M hN.bd hb
  have I:F1 F c (b+24) ο an { W with O:=O } :=
   have Q:=h.mono (ax c) (D:b<=b+24) (ax ο) (ax an)
   ⟨Q.MY,Q.len,Q.nd,λy U=>h.O y ah,by have:=h.ml;grind,Q.B,Q.il⟩
  dsimp only;rw[Ω M.x.to];exact I.send M.x.to ⟨hr.nd,hr.bd,by have e:=hr.ν;have:=hN.ν;grind⟩ hr.O hr.len
def oc{F:Int}{c b ο an:Nat}{W:jA}(h:F1 F c b ο an W):∀k:Nat,b+24*k<=2000->F1 F c (b+24*k) (ο+3300*k) an (Oa F W k)
 | 0,_=>h
 | k+1,hb=>(wQ (oc h k D) D).mono (ax _) D D (ax _)
def og{F:Int}{c b ο an:Nat}{W:jA}(h:F1 F c b ο an W)(hb:b<=2000):∀k:Nat,(k:Int)<=F->F1 F c b (ο+600000000*k) an (NX W k)
 | 0,_=>h
 | k+1,hk=>(wU (og h hb k D) hb ⟨D,D⟩).mono (ax _) (ax _) D (ax _)
def Cn{F:Int}{c b ο an n:Nat}{W:jA}(h:F1 F c b ο an W)(hc:c<=63)(hb:b+24*n<=1900)(hn:(Oa F (NX W F.toNat) n).O=[]):lO F (ο+7300000000+3300*n) an W:=by
 have hr:=h.MY;refine⟨λk hk=>(og h D k hk).mono hc D D D,λk hk=>?_⟩;have I:=og h D F.toNat D;by_cases A:k<=n
 .exact(oc I k D).mono hc D D D
 .rw[ny hn k D];exact(oc I n D).mono hc D D D
theorem Hc{F:Int}{W:jA}{m:fK}{O:List fK}{R:L6}(h:W.O=m::O)(A:0<=m.to/\m.to<F)(hr:dM m.to F m W.B (W.nd m.to).1 (W.nd m.to).2=R):Nv F W=({ W with O:=O }:jA).send m.to R:=by
 grind [Nv]
def wl(na:ω)(xa:Τ)(nb:ω)(xb:Τ)(O:List fK):jA:=⟨[(na,xa),(nb,xb)],O,0,[]⟩
def Ju{na A nb:ω}{xa J xb:Τ}{O out:List fK}(hr:cU 0 0 na xa=(out,A,J)):Pm (wl na xa nb xb O) 0=wl A J nb xb (O++out):=by
 unfold Pm;rw[show cU 0 (wl na xa nb xb O).B ((wl na xa nb xb O).nd 0).1 ((wl na xa nb xb O).nd 0).2=_ from hr];rfl
def Jt{na A nb:ω}{xa J xb:Τ}{O out:List fK}(hr:cU 1 0 nb xb=(out,A,J)):Pm (wl na xa nb xb O) 1=wl na xa A J (O++out):=by
 unfold Pm;rw[show cU 1 (wl na xa nb xb O).B ((wl na xa nb xb O).nd 1).1 ((wl na xa nb xb O).nd 1).2=_ from hr];rfl
def U2{na A nb:ω}{xa J xb:Τ}{m:fK}{O out:List fK}(a2:m.to=0)(hr:dM 0 2 m 0 na xa=(out,A,J)):Nv 2 (wl na xa nb xb (m::O))=wl A J nb xb (O++out):=by
 have h:=Hc (F:=2) (W:=wl na xa nb xb (m::O)) (m:=m) (O:=O) (R:=(out,A,J)) rfl D (by rw[a2];exact hr);rw[h,a2];rfl
def U3{na A nb:ω}{xa J xb:Τ}{m:fK}{O out:List fK}(a2:m.to=1)(hr:dM 1 2 m 0 nb xb=(out,A,J)):Nv 2 (wl na xa nb xb (m::O))=wl na xa A J (O++out):=by
 have h:=Hc (F:=2) (W:=wl na xa nb xb (m::O)) (m:=m) (O:=O) (R:=(out,A,J)) rfl D (by rw[a2];exact hr);rw[h,a2];rfl
def xH:NX (wl NT MQ N9 Ny [Nz]) 2=wl NT MQ N9 Ny [Nz,Nz]:=by
 have I:Pm (wl NT MQ N9 Ny [Nz]) 0=wl NT MQ N9 Ny [Nz,Nz]:=Ju Mp;have Q:Pm (wl NT MQ N9 Ny [Nz,Nz]) 1=wl NT MQ N9 Ny [Nz,Nz]:=Jt Mq;show Pm (Pm (wl NT MQ N9 Ny [Nz]) 0) 1=_;rw[I,Q]
def Ce:NX (wl NF M7 OE MR []) 2=wl NF M7 OE MR []:=by
 have I:Pm (wl NF M7 OE MR []) 0=wl NF M7 OE MR []:=Ju Mo;have Q:Pm (wl NF M7 OE MR []) 1=wl NF M7 OE MR []:=Jt Mn;show Pm (Pm (wl NF M7 OE MR []) 0) 1=_;rw[I,Q]
theorem tM:Oa 2 (wl NT MQ N9 Ny [Nz,Nz]) 10=wl NF M7 OE MR []:=by
 have e1:Nv 2 (wl NT MQ N9 Ny [Nz,Nz])=wl NT MQ NG P9 [Nz,Qa]:=U3 rfl Zq;have e2:Nv 2 (wl NT MQ NG P9 [Nz,Qa])=wl NT MQ NG P9 [Qa,Qa]:=U3 rfl Zr;have e3:Nv 2 (wl NT MQ NG P9 [Qa,Qa])=wl RR O8 NG P9 [Qa,Tx,SC]:=U2 rfl Zu;have e4:Nv 2 (wl RR O8 NG P9 [Qa,Tx,SC])=wl RR O8 NG P9 [Tx,SC]:=U2 rfl Zv;have e5:Nv 2 (wl RR O8 NG P9 [Tx,SC])=wl RR O8 VF SA [SC,Uv]:=U3 rfl Zw;have e6:Nv 2 (wl RR O8 VF SA [SC,Uv])=wl RR O8 SB MR [Uv,Ux,Ty]:=U3 rfl Zx;have e7:Nv 2 (wl RR O8 SB MR [Uv,Ux,Ty])=wl VD O8 SB MR [Ux,Ty]:=U2 rfl Zy;have e8:Nv 2 (wl VD O8 SB MR [Ux,Ty])=wl VE M7 SB MR [Ty,Uy]:=U2 rfl Zz;have e9:Nv 2 (wl VE M7 SB MR [Ty,Uy])=wl NF M7 SB MR [Uy]:=U2 rfl ZA;have A:Nv 2 (wl NF M7 SB MR [Uy])=wl NF M7 OE MR []:=U3 rfl ZB;show Nv 2 (Nv 2 (Nv 2 (Nv 2 (Nv 2 (Nv 2 (Nv 2 (Nv 2 (Nv 2 (Nv 2 (wl NT MQ N9 Ny [Nz,Nz]))))))))))=_;grind
def Ww:cy 2 (wl NT MQ N9 Ny [Nz]) 1=wl NF M7 OE MR []/\cy 2 (wl NT MQ N9 Ny [Nz]) 2=wl NF M7 OE MR []:=by
 have I:cy 2 (wl NT MQ N9 Ny [Nz]) 1=wl NF M7 OE MR []:=by
  show Oa 2 (NX (wl NT MQ N9 Ny [Nz]) 2) 400=_;rw[xH,ny (j:=10) (by rw[tM];rfl) 400 ac,tM]
 refine⟨I,?_⟩;show Oa 2 (NX (cy 2 (wl NT MQ N9 Ny [Nz]) 1) 2) 400=_;rw[I,Ce,ny (j:=0) rfl 400 ac];rfl
def Mm:jE 2 4 xl:=by
 refine⟨by decide,λl T=>?_⟩;rcases L7 T with rfl|T
 .exact⟨by decide,by decide,⟨by decide,by decide⟩,⟨by decide,by decide⟩,by decide,⟨⟨by decide,by decide,by decide,by decide⟩,by decide,trivial⟩⟩
 .rw[GO T];exact⟨by decide,by decide,⟨by decide,by decide⟩,⟨by decide,by decide⟩,by decide,⟨⟨by decide,by decide,by decide,by decide⟩,by decide,trivial⟩⟩
def Fs:fO 0 2 xl 0 9 N9 PW=((0,0),[Nz],NT,MQ):=by
 unfold fO;rw[Ο (by rintro (h|h);exact D;exact h Mm),Ο ac];exact Prod.ext rfl Zs
def U4:(E2 (L1 0 I4) (H9 0 0 [⟨0,1,0,5,[]⟩])).1=0/\bN (L1 0 I4) (H9 0 0 [⟨0,1,0,5,[]⟩])=PW/\P8 0 1 PW:=by
 obtain⟨I,Q⟩:=(P8.zero (d:=0) ac).post ac (to:=1) (x:=0) (n:=5) ⟨by decide,by decide,by decide⟩ none;have h3:bN (L1 0 I4) (H9 0 0 [⟨0,1,0,5,[]⟩])=PW:=(qU (S:=L1 0 I4) (s:=H9 0 0 [⟨0,1,0,5,[]⟩]) ac (nL ac ac ac ac ac (rm ac rfl) ac) rfl).2;exact⟨I,h3,h3▸Q⟩
def Wx:(E2 (L1 1 I4) (H9 0 0 [⟨0,2,1,3,[]⟩])).1=0/\bN (L1 1 I4) (H9 0 0 [⟨0,2,1,3,[]⟩])=Ny/\P8 1 1 Ny:=by
 obtain⟨I,Q⟩:=(P8.zero (d:=1) ac).post ac (to:=2) (x:=1) (n:=3) ⟨by decide,by decide,by decide⟩ none;have h3:bN (L1 1 I4) (H9 0 0 [⟨0,2,1,3,[]⟩])=Ny:=(qU (S:=L1 1 I4) (s:=H9 0 0 [⟨0,2,1,3,[]⟩]) ac (nL ac ac ac ac ac (rm ac rfl) ac) rfl).2;exact⟨I,h3,h3▸Q⟩
theorem U5:F1 2 63 40 1 0 (wl NT MQ N9 Ny [Nz]):=by
 have hb:=pU (υ:=I4) (d:=0) (F:=2) (B:=0) (C7:=9) (ls:=xl) (N:=N9) (S:=PW) (b:=8) ac ac (xu U4.2.2) ac ac ac ac ac ac;rw[Fs] at hb;have hs:=(hb.resolve_left ah).2;have I:Qq 1 2 63 40 (N9,Ny):=⟨xu Wx.2.2,by decide,by decide⟩;refine⟨by decide,rfl,λi hi=>?_,hs.O,ax _,by decide,by decide⟩
 have A:i=0\/i=1:=by
  have:i<2:=hi;omega
 rcases A with rfl|rfl
 .exact⟨hs.nd,aO hs.bd ac,by decide⟩
 .exact I
def Js:∀Δ,Δ<2->lO 2 8000000000 0 (cy 2 (wl NT MQ N9 Ny [Nz]) Δ):=λΔ hr=>by
 have A:Δ=0\/Δ=1:=D;have m1:∀{W:jA} {ο:Nat},ο<=8000000000->lO 2 ο 0 W->lO 2 8000000000 0 W:=λhM h=>⟨λk hk=>(h.1 k hk).mono D D hM D,λk hk=>(h.2 k hk).mono D D hM D⟩;rcases A with rfl|rfl
 .exact m1 ac (Cn (n:=10) U5 ac ac (by show(Oa 2 (NX (wl NT MQ N9 Ny [Nz]) 2) 10).O=[];rw[xH,tM];rfl))
 .rw[Ww.1];have h0:=oc (og U5 ac 2 ac) 10 ac;rw[xH,tM] at h0;have I:F1 2 63 280 0 0 (wl NF M7 OE MR []):=⟨h0.MY,h0.len,h0.nd,h0.O,ax _,h0.B,h0.il⟩;exact m1 ac (Cn (n:=0) I ac ac (by show(NX (wl NF M7 OE MR []) 2).O=[];rw[Ce];rfl))
theorem Ml:ko NF=[]:=by
 unfold ko;rw[nQ (N:=NF) (k:=0) rfl];grind [ge,NF,ε,xe,xp,bz,List.mem_singleton]
def XD:dO NF 0=2/\dO OE 0=2:=⟨rfl,rfl⟩
end
section
open Go.V
attribute [local irreducible] Β Y GP δ vi GF GE Z Ef C0 E CB GB V.Enters bH K6
def pV{L:Ι}(b:Nat)(S:Τ)(k:Nat)(hS:RM k S)(hk:k<=4096)(a i:Int) :
  Υ Λ 58 #[ay b,K a,K i] (aT b S::L) (F7 (K (aW (S.ξ a i))) (aT b S::L)):=by
 refine Υ.bd ?_;refine Β.c9 (f:=jW b S) ?_;intro x;simp only[jW,E1,cJ,aq,av];refine Β.d7 ?_;intro hF;have hg:=hS.ξ a i;have A:=hF.ξ a i;rw[<-A] at hg ⊢;refine Β.cM (E.at (Φ:=η (λp:(Int×Int)×iI=>G8 p.2) x.ξ) (vZ (a,i))) ?_;refine ML ?_;intros;refine Y.ev (Z.j6 rfl rfl) ac ?_;rw[vh];generalize fM x.ξ (a,i)=sk at *;simp only[iI.v];refine ML ?_;intros;refine Y.cr (lG sk.ad sk.D3.length sk.cap sk.D3 rfl (aO hg.len hk) hg.D3) ?_;refine ML ?_;intros;refine KX.a8 aC ?_ ⟨rfl,rfl⟩;refine E.trans ?_ (je x hF);simp only[E1,cJ];exact aj
def Ci{F:Int}{s0 s1:K2}{L:Ι}:E (h2 (MN F) [s0,s1]::L) (fh s0.nb s0.lb s0.d F s0.n (aT s0.lb s0.S::fh s1.nb s1.lb s1.d F s1.n (aT s1.lb s1.S::L))):=by
 refine E.Vi.trans (E.SL.trans ?_);show E (fh s0.nb s0.lb s0.d F s0.n (aT s0.lb s0.S::h2 (MN F) [s1]::L)) _
 have h:E (h2 (MN F) [s1]::L) (fh s1.nb s1.lb s1.d F s1.n (aT s1.lb s1.S::L)):=by
  refine E.Vi.trans (E.SL.trans ?_);show E (fh s1.nb s1.lb s1.d F s1.n (aT s1.lb s1.S::h2 (MN F) []::L)) _;simp only[fh,hl];exact aj
 have Q:E (aT s0.lb s0.S::h2 (MN F) [s1]::L) (aT s0.lb s0.S::fh s1.nb s1.lb s1.d F s1.n (aT s1.lb s1.S::L)):=E.a8 h;simp only[fh,hl] at Q ⊢;repeat first|exact Q|refine E.a8 ?_
def Ls{F:Int}{s0 s1:K2}{L:Ι}:E (fh s0.nb s0.lb s0.d F s0.n (aT s0.lb s0.S::fh s1.nb s1.lb s1.d F s1.n (aT s1.lb s1.S::L))) (h2 (MN F) [s0,s1]::L):=by
 refine E.trans (hx:=fh s1.nb s1.lb s1.d F s1.n (aT s1.lb s1.S::fh s0.nb s0.lb s0.d F s0.n (aT s0.lb s0.S::L))) (by simp only[fh,hl];exact aj) ?_;refine(E.f8 (Φ:=fh s1.nb s1.lb s1.d F s1.n [aT s1.lb s1.S])).trans ?_;refine E.trans (hx:=fh s0.nb s0.lb s0.d F s0.n (aT s0.lb s0.S::MN F s1::L)) (by simp only[fh,hl,MN];exact aj) ?_;refine(E.f8 (Φ:=fh s0.nb s0.lb s0.d F s0.n [aT s0.lb s0.S])).trans ?_;refine E.trans (hx:=MN F s1::MN F s0::L) (by simp only[MN];exact aj) ?_;exact(E.a8 ((E.j6 (MN F)).trans E.swap)).trans ((by exact aj:E _ (MN F s1::h2 (MN F) []::MN F s0::L)).trans (E.Vh.trans ((by exact aj:E _ (MN F s0::h2 (MN F) [s1]::L)).trans E.Vh)))
end
section
open Go.V
def zk{α:Type}{l:List α}(h:l.length=2):∃a b,l=[a,b]:=by
 match l,h with
 | [a,b],_=>exact⟨a,b,rfl⟩
def ID{α:Type}{l:List α}(h:l.length=1):∃a,l=[a]:=by
 match l,h with
 | [a],_=>exact⟨a,rfl⟩
def XE{l:MT}{ad:OA}{cap:Nat}{am:List (Int×Int)}{L:Ι}(h:ms l=τ eh 2 ad am):E (μ eh 2 Qh ad cap am::L) (ms l::L):=by
 rw[h];exact E.NZ
attribute [local irreducible] Β Y GP δ vi GF GE Z Ef C0 E CB GB V.Enters bH K6
def uA{L:Ι} :
  Υ Λ 20 #[] (co::L) (F7 (.bool true) (co::L)):=by
 refine Υ.bd ?_;refine ML ?_;intros;refine Y.cM (Ε:=co::τ (eU .i64) 1 none []::L) ((E.f7 (eU .i64) 1 none).trans aj) ?_;refine Y.ca (uc 2 ac none 0 0 [] rfl (ax 0) (λx M=>iJ M aH)) ?_;rintro _ _⟨wb,W,rfl,hW,rfl⟩;obtain⟨cO,bD,id,I7,M5,x5,gi,iM,B,h1,I6,K1⟩:=W;obtain⟨q1,q2,q3,q4,q5⟩:=hW;dsimp only at q1 q2 q3 q4 q5;subst q3 q4 q5;obtain⟨s0,s1,rfl⟩:=zk (D:cO.length=2);have h0:=q2 0 (by show 0<2;decide);have I:=q2 1 (by show 1<2;decide);rw[show([s0,s1]:List K2)[0]! = s0 from rfl] at h0;rw[show([s0,s1]:List K2)[1]! = s1 from rfl] at I;obtain⟨a9,A,b1,n0,S0⟩:=s0;obtain⟨NG,a7,b5,n1,S1⟩:=s1;obtain⟨J,a2,a3,a4⟩:=h0;obtain⟨c1,c2,c3,c4⟩:=I;dsimp only at J a2 a3 a4 c1 c2 c3 c4;have a6:b1=0:=J;have a5:S0=L1 0 I4:=a4 rfl;have c6:b5=1:=c1;have c5:S1=L1 1 I4:=c4 rfl;clear J c1 a4 c4;subst a6 c6 a5 c5;have a3:P8 0 8 (L1 0 I4):=a3;have c3:P8 1 8 (L1 1 I4):=c3;simp only[F2,M0,al,bu,aL,bq];refine ML ?_;intros;rename_i bm;rw[show([A,a7]:List Nat)[Int.toNat 0]! = A from rfl];refine Y.cM (E.at (Φ:=h2 (MN 2) [⟨a9,A,0,n0,L1 0 I4⟩,⟨NG,a7,1,n1,L1 1 I4⟩]) Ci) ?_;simp only[fh,hl];have h5:=a3.k;have h6:=c3.k;refine Y.cM ((E.at (Φ:=obj bm OC [K 0,K 1,K 0,K 5,ae none 0 0]) (E.d9 (Η:=cq) (sz:=5) (G:=(Nc 1 0 5 (some ⟨bm,0,none⟩)).gN) (n:=1) rfl rfl (by intro y U;rfl) ac)).trans (E.NZ.trans ((E.f7 aK 3 none).trans (E.d7 (f:=Na) (x:=(⟨⟨0,1,0,5,[]⟩,none,0⟩:J5)) kq)))) ?_;have hin:=xR 1 0 5 (some ⟨bm,0,none⟩);refine Y.cM ((E.at (Φ:=τ cq 5 (some ⟨bm,0,none⟩) (Nc 1 0 5 (some ⟨bm,0,none⟩)).gN) (E.refl _)).trans (E.at (Φ:=aT A (L1 0 I4)) (E.refl _))) ?_;refine Y.ca (kX A (L1 0 I4) (ey (L1 0 I4)) a3.J1.a (by rw[a3.J1.υ];exact a3.J1.ok) a3.J1.now (Nc 1 0 5 (some ⟨bm,0,none⟩)) hin.1 hin.2 (by show ey (L1 0 I4)+1<=2000;omega) tY) ?_;rw[show(Nc 1 0 5 (some ⟨bm,0,none⟩)).m=H9 0 0 [⟨0,1,0,5,[]⟩] from rfl,U4.1,U4.2.1];generalize UP (L1 0 I4) (H9 0 0 [⟨0,1,0,5,[]⟩])=r0;rintro _ _⟨rfl,rfl⟩;refine ML ?_;intros;rename_i b2;rw[show([A,a7]:List Nat)[Int.toNat 1]! = a7 from rfl];refine Y.cM ((E.at (Φ:=obj b2 OC [K 0,K 2,K 1,K 3,ae none 0 0]) (E.d9 (Η:=cq) (sz:=5) (G:=(Nc 2 1 3 (some ⟨b2,0,none⟩)).gN) (n:=1) rfl rfl (by intro y U;rfl) ac)).trans (E.NZ.trans ((E.f7 aK 3 none).trans (E.d7 (f:=Na) (x:=(⟨⟨0,2,1,3,[]⟩,none,0⟩:J5)) kq)))) ?_;have b3:=xR 2 1 3 (some ⟨b2,0,none⟩);refine Y.cM ((E.at (Φ:=τ cq 5 (some ⟨b2,0,none⟩) (Nc 2 1 3 (some ⟨b2,0,none⟩)).gN) (E.refl _)).trans (E.at (Φ:=aT a7 (L1 1 I4)) (E.refl _))) ?_;refine Y.ca (kX a7 (L1 1 I4) (ey (L1 1 I4)) c3.J1.a (by rw[c3.J1.υ];exact c3.J1.ok) c3.J1.now (Nc 2 1 3 (some ⟨b2,0,none⟩)) b3.1 b3.2 (by show ey (L1 1 I4)+1<=2000;omega) tY) ?_;rw[show(Nc 2 1 3 (some ⟨b2,0,none⟩)).m=H9 0 0 [⟨0,2,1,3,[]⟩] from rfl,Wx.1,Wx.2.1];generalize UP (L1 1 I4) (H9 0 0 [⟨0,2,1,3,[]⟩])=r1;rintro _ _⟨rfl,rfl⟩;refine ML ?_;intros;rename_i ba bb bl;rw[show([a9,NG]:List Nat)[Int.toNat 0]! = a9 from rfl];obtain⟨la,c0⟩:∃l:MT,(⟨PM,some ⟨ba,0,none⟩,1⟩:MT)=l:=⟨_,rfl⟩;obtain⟨lb,d0⟩:∃l:MT,(⟨Qr,some ⟨bb,0,none⟩,1⟩:MT)=l:=⟨_,rfl⟩;refine Y.cM (Ε:=fh a9 A 0 2 n0 (aT A PW::(fh NG a7 1 2 n1 (aT a7 Ny::obj wb Pz [ae bD (0+1+1) id,ae I7 (0+1+1) M5,ae gi 0 iM,K 0,ae I6 0 K1]::τ du 1 bD [A,a7]::τ du 1 I7 [a9,NG]::Ou be 3 B2 gi iM []::η gO []::μ (eU .i64) 1 C3 I6 K1 []::co::μ eh 2 Qh (some ⟨ba,0,none⟩) 1 [(0,5)]::μ eh 2 Qh (some ⟨bb,0,none⟩) 1 [(1,3)]::μ aZ 5 Pv (some ⟨bl,0,none⟩) 2 [la,lb]::L)))) ?_ ?_
 .refine(E.at (Φ:=obj ba Qh [K 0,K 5]) (E.d9 (Η:=eh) (sz:=2) (G:=[(0,5)]) (n:=1) rfl rfl (by intro y U;rfl) ac)).trans ?_;refine(E.at (Φ:=obj bb Qh [K 1,K 3]) (E.d9 (Η:=eh) (sz:=2) (G:=[(1,3)]) (n:=1) rfl rfl (by intro y U;rfl) ac)).trans ?_;refine(E.at (Φ:=obj bl Pv [K 0,K 1,K 1,K 2,ae (some ⟨ba,0,none⟩) 1 1,K 1,K 2,K 0,K 1,ae (some ⟨bb,0,none⟩) 1 1]) (E.d9 (Η:=aZ) (sz:=5) (G:=[la,lb]) (n:=2) (by rw[<-c0,<-d0];rfl) rfl (by intro y U;rfl) ac)).trans ?_;simp only[fh,hl];exact aj
 have e1:la.m=PM:=by rw[<-c0]
 have e2:lb.m=Qr:=by rw[<-d0]
 have d1:[la,lb].map (·.m)=xl:=by rw[al,al,bu,e1,e2];rfl
 refine Y.cM (Ε:=τ aZ 5 (some ⟨bl,0,none⟩) [la,lb]::η ms [la,lb]::fh a9 A 0 2 n0 (aT A PW::(fh NG a7 1 2 n1 (aT a7 Ny::obj wb Pz [ae bD (0+1+1) id,ae I7 (0+1+1) M5,ae gi 0 iM,K 0,ae I6 0 K1]::τ du 1 bD [A,a7]::τ du 1 I7 [a9,NG]::Ou be 3 B2 gi iM []::η gO []::μ (eU .i64) 1 C3 I6 K1 []::co::L)))) ?_ ?_
 .simp only[fh,hl];refine(E.at (Φ:=μ aZ 5 Pv (some ⟨bl,0,none⟩) 2 [la,lb]) E.NZ).trans ?_;refine(E.at (Φ:=μ eh 2 Qh (some ⟨bb,0,none⟩) 1 [(1,3)]) ((XE (l:=lb) (by rw[<-d0];rfl)).trans (E.d7 (f:=ms) fx))).trans ?_;refine(E.at (Φ:=μ eh 2 Qh (some ⟨ba,0,none⟩) 1 [(0,5)]) (XE (l:=la) (by rw[<-c0];rfl))).trans ?_;refine E.trans (hx:=ms la::η ms [lb]::(τ aZ 5 (some ⟨bl,0,none⟩) [la,lb]::fh a9 A 0 2 n0 (aT A PW::(fh NG a7 1 2 n1 (aT a7 Ny::obj wb Pz [ae bD (0+1+1) id,ae I7 (0+1+1) M5,ae gi 0 iM,K 0,ae I6 0 K1]::τ du 1 bD [A,a7]::τ du 1 I7 [a9,NG]::Ou be 3 B2 gi iM []::η gO []::μ (eU .i64) 1 C3 I6 K1 []::co::L))))) (by simp only[fh,hl];exact aj) ?_;refine(E.j5 (f:=ms) fx).trans ?_;simp only[fh,hl];exact aj
 have e6:PU I4 0 2 n0.m PW:=by rw[a2];exact xu U4.2.2
 have f1:n0.ν=0:=by have e:=congrArg ω.ν a2;exact e
 have f0:∀l∈[la,lb],l.m.am.length<=1000:=λl T=>by
  rcases L7 T with rfl|T
  .rw[e1];decide
  .rw[GO T,e2];decide
 have f6:ey PW+F0 n0.m+2*Nu ([la,lb].map (·.m))<=2000:=by
  rw[d1,a2];have:=U4.2.2.k
  show ey PW+0+2*2<=2000;omega
 have f4:ε n0.m.Ψ (0*4294967296+n0.ν)=none:=by rw[a2,f1];rfl
 have d3:=λο:Ι=>uV (L:=ο) a9 A 0 2 ac n0 PW I4 e6.hin (by show I4.B7.length<=64;decide) (by rw[f1];decide) (some ⟨bl,0,none⟩) 2 2 [la,lb] rfl (by show 2<=1000;decide) f0 0 9 f6 f4;rw[d1,a2,Fs] at d3;refine Y.ca (d3 _) ?_;rintro _ _⟨b8,b0,ds,n2,rfl,b9,g5,rfl⟩;dsimp only at b9 g5
 obtain⟨Ξ,rfl⟩:∃Ξ,ds=[Ξ]:=by
  have T:=congrArg List.length b9;rw[ak] at T;exact ID T
 have hd:Ξ.m=Nz:=by have e:=b9;rw[al,bu] at e;exact(List.cons.inj e).1
 simp only[fh,hl,aL,bq];clear d3 f0 f6 f4 e6 c0 d0 e1 e2 d1 hin b3 q1 q2 b9;have e7:Qq 0 2 63 40 (NT,MQ):=U5.at ac;have h3:Qq 1 2 63 40 (N9,Ny):=U5.at ac;have f5:=e7.a.hin.J1.a.g;have g6:=e7.bd;dsimp only at f5 g6;refine ML ?_;intros;refine GB.neg (λh=>h (by show Ξ.m.to=1;rw[hd];rfl)) ?_;refine ML ?_;intros;rw[show([A,a7]:List Nat)[Int.toNat 0]! = A from rfl];refine Y.cM (E.at (Φ:=aT A MQ) (E.refl _)) ?_;refine Y.ca (pV A MQ (ey MQ) f5 D 1 0) ?_;rw[Wv.1];rintro _ _⟨rfl,rfl⟩;refine ML ?_;intros;obtain⟨W0,d2⟩:∃W:F6,(⟨[⟨a9,A,0,n2,MQ⟩,⟨NG,a7,1,n1,Ny⟩],bD,id,I7,M5,[Ξ],b8,b0,0,[],I6,K1⟩:F6)=W:=⟨_,rfl⟩
 have d6:W0.m=wl NT MQ N9 Ny [Nz]:=by
  rw[<-d2];simp only[F6.m,al,bu,K2.m,g5,c2,hd];rfl
 have b7:Sy W0:=by
  rw[<-d2];intro i hi;have h4:i<2:=hi;rcases (D:i=0\/i=1) with rfl|rfl<;>rfl
 refine Y.cM (Ε:=F2 wb 2 W0 (co::L)) ?_ ?_
 .rw[<-d2];simp only[F2,M0,al,bu,aL,bq];refine(E.at (Φ:=μ be 3 B2 b8 b0 [Ξ]) (E.k9)).trans ?_;refine E.trans (hx:=fh a9 A 0 2 n2 (aT A MQ::fh NG a7 1 2 n1 (aT a7 Ny::(obj wb Pz [ae bD (0+1+1) id,ae I7 (0+1+1) M5,ae b8 (0+1) b0,K 0,ae I6 0 K1]::τ du 1 bD [A,a7]::τ du 1 I7 [a9,NG]::Ou be 3 B2 b8 b0 [Ξ]::η gO [Ξ]::μ (eU .i64) 1 C3 I6 K1 []::co::L)))) (by simp only[fh,hl];exact aj) ?_;refine(Ls (s0:=⟨a9,A,0,n2,MQ⟩) (s1:=⟨NG,a7,1,n1,Ny⟩)).trans ?_;exact aj
 have b4:=λο:Ι=>rX (L:=ο) wb 2 W0 b7 2 ac (ο:=8000000000) (an:=0) ac (by rw[d6];exact U5.mono (ax _) ac ac (ax _)) (λΔ hr=>by rw[d6];exact Js Δ hr);rw[d6,Ww.2] at b4;refine Y.ca (b4 _) ?_;rintro _ _⟨W',rfl,⟨g0,g7⟩,rfl⟩;obtain⟨cO,bD,id,I7,M5,x5,gi,iM,B,h1,I6,K1⟩:=W';have b6:cO.map K2.m=[(NF,M7),(OE,MR)]:=congrArg jA.D8 g0;obtain⟨s0,s1,rfl⟩:=zk (show cO.length=2 by have e:=congrArg List.length b6;rw[ak] at e;exact e);obtain⟨a9,A,b1,m0,S0⟩:=s0;obtain⟨NG,a7,b5,m1,S1⟩:=s1;rw[al,al,bu] at b6;have e0:=(List.cons.inj b6).1;have e4:=(List.cons.inj (List.cons.inj b6).2).1;have g1:m0.m=NF:=congrArg Prod.fst e0;have g2:S0=M7:=congrArg Prod.snd e0;have g3:m1.m=OE:=congrArg Prod.fst e4;have g4:S1=MR:=congrArg Prod.snd e4;subst g2 g4;clear g0 g7 b4 b7 b6 e0 e4;simp only[F2,M0,al,bu,aL,bq];refine Y.cM ((E.at (Φ:=h2 (MN 2) [⟨a9,A,b1,m0,M7⟩,⟨NG,a7,b5,m1,MR⟩]) Ci).trans (E.trans (hx:=fh a9 A b1 2 m0 (aT A M7::fh NG a7 b5 2 m1 (aT a7 MR::obj wb Pz [ae bD (0+1+1) id,ae I7 (0+1+1) M5,ae gi x5.length iM,K B,ae I6 h1.length K1]::τ du 1 bD [A,a7]::τ du 1 I7 [a9,NG]::co::L))) (by simp only[fh,hl];exact aj) (E.refl _))) ?_;simp only[fh,hl]
 have hF:F1 2 63 1900 8000000000 0 (wl NF M7 OE MR []):=by
  have q:=(Js 1 ac).1 0 ac;rw[Ww.1] at q;exact q
 have e8:Qq 0 2 63 1900 (NF,M7):=hF.at ac;have e9:Qq 1 2 63 1900 (OE,MR):=hF.at ac;have f2:=e8.a.hin.J1.a.g;have f3:=e9.a.hin.J1.a.g;have d4:=e8.bd;have d5:=e9.bd;dsimp only at f2 f3 d4 d5
 have e5:∀p∈m0.Γ,p.2.Α.length<=1000:=λp hp=>by
  have q:(p.1,p.2.m)∈NF.Γ:=by rw[<-g1];exact List.mem_map.2 ⟨p,hp,rfl⟩
  have e:=GO q;have e2:=congrArg (λx:Int×Nl=>x.2.Α.length) e;have e3:p.2.Α.length=1:=(ak _).symm.trans e2;omega
 refine ML ?_;intros;rw[show([a9,NG]:List Nat)[Int.toNat 0]! = a9 from rfl];refine Y.ca (lH a9 A b1 2 m0 0) ?_;rw[g1,XD.1];rintro _ _⟨rfl,rfl⟩;simp only[fh,hl];refine ML ?_;intros;rw[show([a9,NG]:List Nat)[Int.toNat 1]! = NG from rfl];refine Y.cM (Ε:=fh NG a7 b5 2 m1 (aT a7 MR::fh a9 A b1 2 m0 (aT A M7::obj wb Pz [ae bD (0+1+1) id,ae I7 (0+1+1) M5,ae gi x5.length iM,K B,ae I6 h1.length K1]::τ du 1 bD [A,a7]::τ du 1 I7 [a9,NG]::co::L))) (by simp only[fh,hl];exact aj) ?_;refine Y.ca (lH NG a7 b5 2 m1 0) ?_;rw[g3,XD.2];rintro _ _⟨rfl,rfl⟩;simp only[fh,hl];refine ML ?_;intros;rw[show([A,a7]:List Nat)[Int.toNat 0]! = A from rfl];refine Y.cM (E.at (Φ:=aT A M7) (E.refl _)) ?_;refine Y.ca (pV A M7 (ey M7) f2 D 1 1) ?_;rw[Wv.2.1];rintro _ _⟨rfl,rfl⟩;refine ML ?_;intros;rw[show([A,a7]:List Nat)[Int.toNat 1]! = a7 from rfl];refine Y.cM (E.at (Φ:=aT a7 MR) (E.refl _)) ?_;refine Y.ca (pV a7 MR (ey MR) f3 D 2 0) ?_;rw[Wv.2.2];rintro _ _⟨rfl,rfl⟩;refine ML ?_;intros;rw[show([a9,NG]:List Nat)[Int.toNat 0]! = a9 from rfl];refine Y.cM (Ε:=fh a9 A b1 2 m0 (co::L)) (by simp only[fh,hl];exact aj) ?_;refine Y.ca (qF a9 A b1 2 m0 (by rw[show m0.Ψ.length=NF.Ψ.length by rw[<-g1];exact(ak _).symm];decide) (by rw[show m0.Γ.length=NF.Γ.length by rw[<-g1];exact(ak _).symm];decide) e5) ?_;rw[g1,Ml];rintro _ _⟨h7,Q,rfl,rfl⟩;simp only[fh,hl];refine ML ?_;intros;refine KX.a8 aC ?_ ⟨by rw[bO (show(([]:List Int).length:Int)=0 from rfl)];rfl,rfl⟩;exact aj
end
section
open Go.V
def U6(k:Int):Int:=if k=0\/k=5 then 1 else if k=1\/k=6 then -1 else 0
def VH(x:Int)(f:E3):Int:=if f.a1=x then U6 f.Ζ*f.n else 0
def RC(x:Int)(fl:List E3):Int:=(fl.map (VH x)).sum
theorem Kd(x:Int)(a b:List E3):RC x (a++b)=RC x a+RC x b:=by
 grind [RC]
theorem xZ(x:Int)(f:E3)(b:List E3):RC x (f::b)=VH x f+RC x b:=by
 grind [RC]
def SE(k:Int):Int->List B1->List E3->Prop
 | _,[],lp=>lp=[]
 | r,m::O,lp=>∃f F',lp=f::F'/\(f.r=r/\f.Ζ=k/\f.a1=m.a1/\f.n=m.n/\(k=5->f.Γ=m.Γ))/\SE k (r+1) O F'
theorem uN{d:Int}{fl:List E3}{hy:Int->Bool}{s:D7}{W:Wk}{m:B1}(h:(ce d fl hy s W m).1=0):(ce d fl hy s W m).2.Μ=W.Μ++[gH d fl.length hy s W m]/\(ce d fl hy s W m).2.iL=Pr W.iL m.a1 (dt W m):=by
 grind [ce]
theorem Gm{k:Int}{W:Wk}{m:B1}(hk:¬(k=7\/k=9))(he:iz k m)(hn:m.Ν≠m.to):dt W m=W.iL m.a1+U6 k*m.n:=by
 grind [iz,dt,U6]
theorem wJ{d:Int}{fl:List E3}{hy:Int->Bool}{s:D7}(hk:¬(s.Ζ=7\/s.Ζ=9)):∀(O:List B1) (W:Wk),(cQ d fl hy s W O).1=0->(∀m∈O,iz s.Ζ m/\m.Ν≠m.to)->∃lp,(cQ d fl hy s W O).2.Μ=W.Μ++lp/\SE s.Ζ (fc d fl.length W) O lp/\∀x,(cQ d fl hy s W O).2.iL x=W.iL x+RC x lp
 | [],W,_,_=>⟨[],(aJ _).symm,rfl,λx=>(ed _).symm⟩
 | m::O,W,h,hm=>by
  have e:cQ d fl hy s W (m::O)=if(ce d fl hy s W m).1=0 then cQ d fl hy s (ce d fl hy s W m).2 O else((ce d fl hy s W m).1,W):=rfl;rw[e] at h ⊢;by_cases h0:(ce d fl hy s W m).1=0
  case neg =>
   grind
  rw[Ω h0] at h ⊢;obtain⟨f1,f2⟩:=uN h0;obtain⟨he,A⟩:=hm m ah;obtain⟨lp,g1,g2,g3⟩:=wJ hk O (ce d fl hy s W m).2 h ah;refine⟨gH d fl.length hy s W m::lp,?_,⟨_,lp,rfl,⟨rfl,rfl,rfl,rfl,λh5=>?_⟩,?_⟩,λx=>?_⟩
  .grind
  .show Pw hy s W m=m.Γ;grind [iz,Pw]
  .grind [fc]
  .rw[g3,f2,xZ];have e3:Pr W.iL m.a1 (dt W m) x=if x=m.a1 then dt W m else W.iL x:=rfl;rw[e3];unfold VH;show _=W.iL x+((if m.a1=x then U6 s.Ζ*m.n else 0)+RC x lp);grind [Gm]
def vn{S:Τ}{s:D7}(h:(E2 S s).1=0)(hk:¬(s.Ζ=4\/s.Ζ=10\/s.Ζ=7\/s.Ζ=9)):∃lp,(bN S s).Μ=S.Μ++lp/\SE s.Ζ (S.D9*4294967296+S.Μ.length) s.gN lp/\(∀x,(bN S s).iL x=S.iL x+RC x lp)/\∀m∈s.gN,0<=m.a1/\m.a1<S.υ.B7.length:=by
 have hp:=jf h;have he:=oP h;have h3:=h;rw[he] at h3;have hw:=hp.2.2.2.2.2;unfold mX at hw;rw[Ο D,Ο D] at hw;obtain⟨lp,f1,f2,f3⟩:=wJ (s:=s.at (cS S)) (by show ¬(s.Ζ=7\/s.Ζ=9);omega) s.gN (Nk S) h3 λm hm=>⟨hw.1 m hm,(hp.2.2.2.2.1 m hm).1.2.2.1⟩;refine⟨lp,?_,?_,λx=>?_,λm hm=>(hp.2.2.2.2.1 m hm).1.1⟩
 .rw[show bN S s=fF S s from Ω h];show S.Μ++(E2 S s).2.Μ=_;rw[he,f1];rfl
 .have e:fc S.D9 S.Μ.length (Nk S)=S.D9*4294967296+S.Μ.length:=by
   show S.D9*4294967296+(S.Μ.length:Int)+((0:Nat):Int)=_;omega
  rw[e] at f2;exact f2
 .rw[show bN S s=fF S s from Ω h];show(E2 S s).2.iL x=_;rw[he,f3];rfl
def T3(r:Int):Nat->List Int
 | 0=>[]
 | n+1=>r::T3 (r+1) n
theorem zw(r:Int):∀n,(T3 r n).length=n
 | 0=>rfl
 | n+1=>by rw[T3,aL,zw (r+1) n]
def te{x:Int}:∀{n:Nat} {r:Int},x∈T3 r n->r<=x/\x<r+n
 | 0,_,h=>by cases h
 | n+1,r,h=>by
  rcases L7 h with rfl|h
  .omega
  .have:=te h
   omega
def uH:∀(n:Nat) (r:Int),(T3 r n).Nodup
 | 0,_=>dp
 | n+1,r=>List.nodup_cons.2 ⟨λh=>by have:=te h;omega,uH n (r+1)⟩
def Qs(fl:List E3):π:=(fl.filter λf=>decide (f.Ζ=6)).map λf=>(f.r,0,f.n)
def rH(am:List (Int×Int))(fl:List Int):π:=(am.zip fl).map λp=>(p.2,0,p.1.2)
theorem tC(a b:List E3):Qs (a++b)=Qs a++Qs b:=by
 grind [Qs]
theorem mI(a b:List E3):dm (a++b)=dm a++dm b:=by
 grind [dm]
def vE{k:Int}:∀{O:List B1} {r:Int} {lp:List E3},SE k r O lp->lp.map (·.r)=T3 r O.length
 | [],_,_,h=>by rw[show _=[] from h];rfl
 | m::O,r,_,⟨f,F',I,Q,h3⟩=>by
  rw[I,al,vE h3,Q.1];rfl
def oQ{k:Int}:∀{O:List B1} {r:Int} {lp:List E3},SE k r O lp->∀f∈lp,f.Ζ=k/\∃m∈O,f.a1=m.a1
 | [],_,_,h,f,hf=>by rw[show _=[] from h] at hf;cases hf
 | m::O,r,_,⟨g,F',I,Q,h3⟩,f,hf=>by
  rw[I] at hf;rcases L7 hf with rfl|hf
  .exact⟨Q.2.1,m,au,Q.2.2.1⟩
  .obtain⟨q1,y,q2,q3⟩:=oQ h3 f hf;exact⟨q1,y,az _ q2,q3⟩
theorem CS{r:Int}{h:Int}:∀{am:List (Int×Int)} {r:Int} {lp:List E3},SE 6 r (B5 h 0 am) lp->Qs lp=rH am (lp.map (·.r))
 | [],_,_,h=>by rw[show _=[] from h];rfl
 | a::am,r,_,⟨f,F',I,Q,h3⟩=>by
  have ih:=CS (r:=r) h3
  have e:Qs (f::F')=(f.r,0,f.n)::Qs F':=by
   unfold Qs;rw[dD ah,al]
  rw[I,e,ih,al,Q.2.2.2.1];rfl
theorem CR{to:Int}:∀{am:List (Int×Int)} {fl:List Int} {r:Int} {lp:List E3},SE 5 r (G7 to am fl) lp->dm lp=rH am fl
 | [],fl,_,_,h=>by rw[show _=[] from h];rfl
 | a::am,[],_,_,h=>by rw[show _=[] from h];rfl
 | a::am,x::fl,r,_,⟨f,F',I,Q,h3⟩=>by
  have ih:=CR (am:=am) (fl:=fl) h3
  have e:dm (f::F')=f.Γ++dm F':=by
   unfold dm;rw[dD ah,aS]
  rw[I,e,ih,Q.2.2.2.2 rfl];rfl
theorem Jc{lp:List E3}(h:∀f∈lp,¬f.Ζ=6):Qs lp=[]:=by
 grind [Qs,List.filter_eq_nil_iff]
theorem zv{lp:List E3}(h:∀f∈lp,¬f.Ζ=5):dm lp=[]:=by
 grind [dm,List.filter_eq_nil_iff]
theorem oR{k:Int}{O:List B1}{r:Int}{lp:List E3}(h:SE k r O lp):lp.length=O.length:=by
 have e:=congrArg List.length (vE h);grind [zw]
theorem Cz:∀O:List B1,O.length<=C6 O
 | []=>ax _
 | m::O=>by
  have:=Cz O
  show O.length+1<=(m.Γ.length+1)+C6 O;omega
structure SF (d:Int) (S:Τ):Prop where
 Wy:S.D9=d
 υ:S.υ.B7.length=4
 fb:S.Μ.length<=64*S.Ev.length/\S.Ev.length<=65536
 fk:S.Μ.length<=ey S
 iL:∀x,S.iL x=RC x S.Μ
 a1:∀f∈S.Μ,0<=f.a1/\f.a1<4
structure XG (d:Int) (S S' : Τ) (Ζ:Int) (O:List B1) (lp:List E3):Prop where
 fl:S'.Μ=S.Μ++lp
 fs:SE Ζ (d*4294967296+S.Μ.length) O lp
 j:SF d S'
theorem zo{d:Int}{S:Τ}{s:D7}(hJ:SF d S)(h:(E2 S s).1=0)(hk:¬(s.Ζ=4\/s.Ζ=10\/s.Ζ=7\/s.Ζ=9)):∃lp,XG d S (bN S s) s.Ζ s.gN lp:=by
 obtain⟨lp,f1,f2,f3,f4⟩:=vn h hk;have hp:=jf h;have T:=oR f2;have hm:=hp.2.2.2.1.2
 have J:S.Ev.length<65536:=by
  by_cases q:65536<=S.Ev.length
  .grind [E2]
  .omega
 have A:=hJ.fb;have e1:(bN S s).Ev=S.Ev++[s.at (cS S)]:=by rw[show bN S s=fF S s from Ω h];rfl
 have e2:(bN S s).D9=S.D9:=by rw[show bN S s=fF S s from Ω h];rfl
 have e3:(bN S s).υ=S.υ:=by rw[show bN S s=fF S s from Ω h];rfl
 rw[hJ.Wy] at f2;refine⟨lp,f1,f2,⟨e2.trans hJ.Wy,by rw[e3];exact hJ.υ,?_,?_,λx=>?_,λf hf=>?_⟩⟩
 .grind
 .have:=hJ.fk
  grind [Cz,jp]
 .rw[f3,f1,Kd,hJ.iL]
 .rw[f1] at hf;rcases J4 hf with hf|hf
  .exact hJ.a1 f hf
  .obtain⟨_,m,hm,e⟩:=oQ f2 f hf;have:=f4 m hm
   have:=hJ.υ
   omega
theorem wy{d:Int}{S:Τ}{s:D7}(hJ:SF d S)(hk:¬(s.Ζ=4\/s.Ζ=10\/s.Ζ=7\/s.Ζ=9))(h5:¬s.Ζ=5)(h6:¬s.Ζ=6):SF d (bN S s)/\Qs (bN S s).Μ=Qs S.Μ/\dm (bN S s).Μ=dm S.Μ/\S.Μ.length<=(bN S s).Μ.length:=by
 by_cases h:(E2 S s).1=0
 .obtain⟨lp,hF⟩:=zo hJ h hk;refine⟨hF.j,?_,?_,?_⟩
  .rw[hF.fl,tC,Jc (lp:=lp) (λf hf=>by rw[(oQ hF.fs f hf).1];exact h6),aJ]
  .rw[hF.fl,mI,zv (lp:=lp) (λf hf=>by rw[(oQ hF.fs f hf).1];exact h5),aJ]
  .rw[hF.fl,aA];omega
 grind [bN]
theorem Gv{d:Int}{S:Τ}{Ζ B:Int}{O:List B1}(hJ:SF d S)(h:E6 S Ζ B O=true)(hk:¬(Ζ=4\/Ζ=10\/Ζ=7\/Ζ=9)):∃lp,XG d S (L3 S Ζ B O) Ζ O lp/\Nf S Ζ B O=T3 (d*4294967296+S.Μ.length) O.length/\lp.map (·.r)=Nf S Ζ B O:=by
 have h0:(E2 S (H9 Ζ B O)).1=0:=by
  by_cases q:(E2 S (H9 Ζ B O)).1=0
  .exact q
  .grind [E6,bz]
 obtain⟨lp,hF⟩:=zo (s:=H9 Ζ B O) hJ h0 hk
 have e:Nf S Ζ B O=lp.map (·.r):=by
  unfold Nf ki;rw[Ω h0,hF.fl,List.drop_left]
 exact⟨lp,hF,e.trans (vE hF.fs),e.symm⟩
structure Gh where
 Β:Int->Option (List x4)
 X:Int×Int->Option (List Int)
def Gh.Χ(g:Gh)(k:Int×Int):Option x4:=match g.Β k.1 with
 | some ls=>if 0<=k.2 then ls[k.2.toNat]? else none
 | none=>none
theorem lf{g fJ : Gh}(h:fJ.Β=g.Β)(k:Int×Int):fJ.Χ k=g.Χ k:=by
 unfold Gh.Χ;rw[h]
def uz(g:Gh)(k:Int×Int):π:=match g.Χ k with
 | some l=>match g.X k with
  | some fl=>rH l.am fl
  | none=>[]
 | none=>[]
def jV{g:Gh}{k:Int×Int}{l:x4}{fl:List Int}(I:g.Χ k=some l)(Q:g.X k=some fl):uz g k=rH l.am fl:=by
 unfold uz;rw[I,Q]
structure Ng (g:Gh):Prop where
 xl:∀k fl,g.X k=some fl->∃l,g.Χ k=some l/\(∀x∈fl,x / 4294967296=l.d)/\fl.Nodup
 Wz:∀k k' a b,g.X k=some a->g.X k' = some b->k≠k'->∀x∈a,x∉b
structure O1 (g:Gh) (d:Int) (rv:List (Int×Int)) (S:Τ):Prop where
 J1:SF d S
 exp:∀k l fl,g.Χ k=some l->l.d=d->g.X k=some fl->(∀y∈rH l.am fl,y∈Qs S.Μ)/\∀x∈fl,x<d*4294967296+S.Μ.length
 nd:rv.Nodup
 rc:∀k∈rv,∃l fl,g.Χ k=some l/\l.ts=d/\g.X k=some fl
 imp:dm S.Μ=rv.flatMap (uz g)
structure Re (g:Gh) (d r:Int) (o:hD):Prop where
 lg:g.Χ (r,o.ai)=some o.Χ
 d:o.Χ.d=d
 x0:o.state=0->g.X (r,o.ai)=none
 x1:o.state=1->g.X (r,o.ai)=some o.Μ
structure L4 (g:Gh) (y:fK):Prop where
 pr:y.ct.Ζ=1->g.Β y.ct.r=some y.ct.Α
 tr:y.ct.Ζ=5->∃l,g.Χ (y.ct.r,y.ct.ai)=some l/\y.ct.Α=[l]/\l.ts=y.to/\g.X (y.ct.r,y.ct.ai)=some y.ct.Μ
def O1.keep{g:Gh}{d:Int}{rv:List (Int×Int)}{S S' : Τ}(h:O1 g d rv S)(hJ:SF d S')(I:Qs S'.Μ=Qs S.Μ)(Q:dm S'.Μ=dm S.Μ)(h3:S.Μ.length<=S'.Μ.length):O1 g d rv S' :=
 ⟨hJ,λk l fl q1 q2 q3=>⟨by rw[I];exact(h.exp k l fl q1 q2 q3).1,λx M=>by have:=(h.exp k l fl q1 q2 q3).2 x M;omega⟩,h.nd,h.rc,by rw[Q];exact h.imp⟩
def O1.XH{g:Gh}{d:Int}{rv:List (Int×Int)}{S:Τ}(h:O1 g d rv S)(B:Int)(O:List B1):O1 g d rv (L3 S 2 B O):=by
 obtain⟨q1,q2,q3,q4⟩:=wy (s:=H9 2 B O) h.J1 (by show ¬((2:Int)=4\/(2:Int)=10\/(2:Int)=7\/(2:Int)=9);decide) (by show ¬(2:Int)=5;decide) (by show ¬(2:Int)=6;decide);exact h.keep q1 q2 q3 q4
def Gh.put(g:Gh)(k:Int×Int)(fl:List Int):Gh:={ g with X:=λj=>if j=k then some fl else g.X j }
theorem Gh.c7(g:Gh)(k:Int×Int)(fl:List Int):(g.put k fl).X k=some fl:=Ω rfl
theorem Gh.a8{g:Gh}{k j:Int×Int}(fl:List Int)(h:j≠k):(g.put k fl).X j=g.X j:=Ο h
def nx{α β:Type}{f f' : α->List β}:∀{l:List α},(∀x∈l,f x=f' x)->l.flatMap f=l.flatMap f'
 | [],_=>rfl
 | a::l,h=>by rw[aS,aS,h a au,nx λx M=>h x (az _ M)]
def O1.D3{g fJ : Gh}{d:Int}{rv:List (Int×Int)}{S:Τ}(h:O1 g d rv S)(hG:fJ.Β=g.Β)(hm:∀k fl,g.X k=some fl->fJ.X k=some fl):rv.flatMap (uz fJ)=rv.flatMap (uz g):=by
 refine nx λk hk=>?_;obtain⟨l,fl,q1,q2,q3⟩:=h.rc k hk;rw[jV q1 q3,jV ((lf hG k).trans q1) (hm k fl q3)]
theorem O1.ZC{g:Gh}{d:Int}{rv:List (Int×Int)}{S:Τ}(h:O1 g d rv S)(hg:Ng g){k:Int×Int}{l:x4}(T:g.Χ k=some l)(hs:l.d=d)(hX:g.X k=none){Κ B:Int}(a9:E6 S 6 B (B5 Κ 0 l.am)=true) :
  Ng (g.put k (Nf S 6 B (B5 Κ 0 l.am)))/\O1 (g.put k (Nf S 6 B (B5 Κ 0 l.am))) d rv (L3 S 6 B (B5 Κ 0 l.am)):=by
 obtain⟨lp,hF,e1,e2⟩:=Gv h.J1 a9 ac;have a6:=hF.j.fb;have a3:=oR hF.fs;rw[hF.fl,aA,a3] at a6
 have J:∀x∈Nf S 6 B (B5 Κ 0 l.am),d*4294967296+S.Μ.length<=x/\x<d*4294967296+S.Μ.length+(B5 Κ 0 l.am).length:=λx M=>by
  rw[e1] at M;exact te M
 have a5:Qs lp=rH l.am (Nf S 6 B (B5 Κ 0 l.am)):=by rw[<-e2];exact CS (r:=0) hF.fs
 generalize Nf S 6 B (B5 Κ 0 l.am)=fl at *;generalize L3 S 6 B (B5 Κ 0 l.am)=S' at *;have A:∀j f,g.X j=some f->(g.put k fl).X j=some f:=by grind [Gh.a8]
 have a4:∀j f,g.X j=some f->∀x∈f,x∉fl:=λj f q x M a2=>by
  obtain⟨l',p1,p2,p3⟩:=hg.xl j f q;have r1:=J x a2;have r2:=p2 x M;by_cases e:l'.d=d
  .have:=(h.exp j l' f p1 e q).2 x M
   omega
  .omega
 refine⟨⟨λj f q=>?_,λj j' a b qa qb a7 x M a2=>?_⟩,⟨hF.j,λj l' f p1 p2 p3=>?_,h.nd,λj hj=>?_,?_⟩⟩
 .by_cases e:j=k
  .subst e;rw[Gh.c7] at q;obtain rfl:=O3 q;refine⟨l,T,λx M=>?_,by rw[e1];exact uH _ _⟩;grind
  .rw[Gh.a8 fl e] at q;exact hg.xl j f q
 .by_cases ea:j=k
  .grind [Gh.c7,Gh.a8]
  .rw[Gh.a8 fl ea] at qa;by_cases eb:j' = k
   .grind [Gh.c7]
   .rw[Gh.a8 fl eb] at qb;exact hg.Wz j j' a b qa qb a7 x M a2
 .rw[hF.fl,tC,aA,a3];by_cases e:j=k
  .subst e;rw[Gh.c7] at p3;obtain rfl:=O3 p3;have e3:l' = l:=O3 (p1.symm.trans T);grind
  .rw[Gh.a8 fl e] at p3;obtain⟨r1,r2⟩:=h.exp j l' f p1 p2 p3;grind
 .obtain⟨l',f,p1,p2,p3⟩:=h.rc j hj;exact⟨l',f,p1,p2,A j f p3⟩
 .rw[hF.fl,mI,zv (lp:=lp) (λf hf=>by rw[(oQ hF.fs f hf).1];decide),aJ,h.imp];exact(h.D3 (fJ:=g.put k fl) rfl A).symm
theorem O1.ZD{g:Gh}{d:Int}{rv:List (Int×Int)}{S:Τ}(h:O1 g d rv S){k:Int×Int}{l:x4}{fl:List Int}(T:g.Χ k=some l)(hs:l.ts=d)(hX:g.X k=some fl)(hk:k∉rv){to B:Int}(A:E6 S 5 B (G7 to l.am fl)=true):O1 g d (rv++[k]) (L3 S 5 B (G7 to l.am fl)):=by
 obtain⟨lp,hF,_,_⟩:=Gv h.J1 A ac;have J:=oR hF.fs;refine⟨hF.j,λj l' f p1 p2 p3=>?_,?_,λj hj=>?_,?_⟩
 .rw[hF.fl,tC,aA];obtain⟨r1,r2⟩:=h.exp j l' f p1 p2 p3;grind
 .exact List.nodup_append.2 ⟨h.nd,List.nodup_cons.2 ⟨aH,dp⟩,λa ha b hb e=>hk (by rw[GO hb] at e;rw[<-e];exact ha)⟩
 .rcases J4 hj with hj|hj
  .exact h.rc j hj
  grind
 .rw[hF.fl,mI,CR hF.fs,dJ,h.imp,List.flatMap_singleton,jV T hX]
