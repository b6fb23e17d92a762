/- Lemmas. -/
import Derived.Test.YtlgpgjdggilkgaaGreatDoorEdbr
set_option linter.all false
set_option maxHeartbeats 4000000
namespace Go.Proofs.YtlgpgjdggilkgaaGreatDoor
section
open Go.V
def S9(a x:Int)(hs:List Hd):Int:=(hs.map λh=>if h.1=a/\h.2.1=x then h.2.2 else 0).sum
def FF{a x:Int}{hs:List Hd}(h:∀z∈hs,¬(z.1=a/\z.2.1=x)):S9 a x hs=0:=jQ λz hz=>Ο (h z hz)
def sI{a x:Int}:∀{hs:List Hd},hs.Pairwise Qm->(S9 a x hs=0/\∀z∈hs,¬(z.1=a/\z.2.1=x))\/∃z∈hs,(z.1=a/\z.2.1=x)/\S9 a x hs=z.2.2
 | [],_=>.inl ⟨rfl,λz hz=>iJ hz aH⟩
 | h::hs,hp=>by
  obtain⟨p1,p2⟩:=List.pairwise_cons.1 hp;have e:S9 a x (h::hs)=(if h.1=a/\h.2.1=x then h.2.2 else 0)+S9 a x hs:=by unfold S9;rw[al,aR]
  by_cases q:h.1=a/\h.2.1=x
  .refine .inr ⟨h,au,q,?_⟩;rw[e,Ω q,FF λz hz y=>?_]
   .omega
   .have:=p1 z hz
    unfold Qm at this;omega
  .rw[e,Ο q,Int.zero_add];rcases sI (a:=a) (x:=x) p2 with⟨r1,r2⟩|⟨z,hz,r1,r2⟩
   .refine .inl ⟨r1,λz hz=>?_⟩;rcases L7 hz with rfl|hz
    .exact q
    .exact r2 z hz
   .exact .inr ⟨z,az _ hz,r1,r2⟩
def Sr.sub{f:Int->Int->Int}{hs:List Hd}(h:Sr f hs)(a x:Int):S9 a x hs=f a x:=by
 rcases sI (a:=a) (x:=x) h.Vt with⟨r1,r2⟩|⟨z,hz,⟨q1,q2⟩,r2⟩
 .rw[r1];refine Classical.byContradiction λq=>?_;exact r2 (a,x,f a x) ((h.mem _).2 ⟨rfl,λe=>q e.symm⟩) ⟨rfl,rfl⟩
 .rw[r2,((h.mem z).1 hz).1,q1,q2]
def Sr.part{f:Int->Int->Int}{hs:List Hd}(h:Sr f hs)(a x:Int)(j:Nat):S9 a x (hs.take j)=0\/S9 a x (hs.take j)=f a x:=by
 rcases sI (a:=a) (x:=x) (h.Vt.sublist (List.take_sublist j hs)) with⟨r1,_⟩|⟨z,hz,⟨q1,q2⟩,r2⟩
 .exact .inl r1
 .exact .inr (by rw[r2,((h.mem z).1 (cI hz)).1,q1,q2])
structure HsV where
 ad:OA
 cap:Nat
 hs:List Hd
 deriving Inhabited
def LO{k:Nat}{S:Τ}(h:RM k S)(hk:k<=4096)(x:Od):(S.Vx x).Ok:=⟨h.D9,h.Ev,h.Μ,λa i=>⟨aO (h.ξ a i).len hk,(h.ξ a i).D3⟩,h.iL⟩
attribute [local irreducible] Β Y GP δ vi GF GE Z Ef C0 E CB GB V.Enters bH K6
def qP{L:Ι}(b:Nat)(S:Τ)(k:Nat)(hG:RM k S)(hk:k<=4096)(hS:pY S.ξ S.Μ)(A:S.Μ.length<=100000) :
  Υ Λ 21 #[ay b] (aT b S::L) (λv Ε=>∃ad cap hs,v=ae ad hs.length cap/\(Sr (Wi S) hs/\hs.length<=4194304)/\Ε = μ fS 3 Vr ad cap hs::aT b S::L):=by
 refine Υ.d9 (g:=jW b S) Xa.1 ?_;intro x;show Υ _ _ _ (ee (TY S x)::E1 b S.D9 x L) _;refine Υ.d8 Xa.1 ?_;intro hF;have q:=EO (L:=ew gT Qz x.mt x.iL::Pt eH 7 jh x.K0 x.P3 x.Ev::Pt fw 11 gZ x.C4 x.F3 x.Μ::ew gT iI.v x.mi x.imp::ew gT iI.v x.mr x.ret::Oc x.υ::η iw x.Ev::η OZ x.Μ::η (λp:Int×iI=>G8 p.2) x.imp::η (λp:Int×iI=>G8 p.2) x.ret::L) b (S.Vx x) x hF.Zg (LO hG hk x) hS A;rw[show(S.Vx x).D9=S.D9 from rfl] at q;refine(q.pre (by simp only[E1];exact aj)).Q2 ?_;rintro _ _⟨ad,cap,hs,I,Q,rfl⟩;refine⟨_,⟨ad,cap,hs,I,Q,rfl⟩,?_⟩;refine E.trans ?_ (E.a8 (je x hF));simp only[E1];exact aj
end
section
open Go.V
structure VM (n:Int) (l:x4):Prop where
 d:0<=l.d/\l.d<n
 ts:0<=l.ts/\l.ts<n
 fr:0<l.fr/\l.fr<20
 to:0<l.to/\l.to<20
 len:l.am.length<=3
 am:∀p∈l.am,(0<=p.1/\p.1<4)/\1<=p.2/\p.2<=12
def VM.of{n:Int}{l:x4}(h:Rh n l)(k:TZ n l):VM n l:=by
 have I:=h.h.fr;have Q:=h.h.to;have h3:=k.fr;have h4:=k.to;exact⟨h.d,h.ts,D,D,h.len,λp hp=>⟨(h.h.am.2 p hp).1,(h.h.am.2 p hp).2.1,h.am p hp⟩⟩
def TA(ο:Int->Int->Int)(Δ:Int):List Int:=[ο Δ 0,ο Δ 1,ο Δ 2,ο Δ 3]
def Va(ο:Int->Int->Int)(Δ x v:Int):Int->Int->Int:=λr' x'=>ο r' x' + if r' = Δ/\x' = x then v else 0
def Ic{ο:Int->Int->Int}{Δ x v:Int}(h:0<=x/\x<4):(TA ο Δ).set x.toNat (ο Δ x+v)=TA (Va ο Δ x v) Δ:=by
 rcases (D:x=0\/x=1\/x=2\/x=3) with rfl|rfl|rfl|rfl<;>simp[TA,Va]
def Kf{ο:Int->Int->Int}{Δ x v r' : Int}(h:r'≠Δ):TA (Va ο Δ x v) r' = TA ο r':=by
 simp[TA,Va,h]
structure Ta (bs:List Nat) (ο:Int->Int->Int) (rows:List (Nat×List Int)):Prop where
 bk:rows.map (·.1)=bs
 at_:∀k:Nat,k<bs.length->rows[k]!.2=TA ο k
def Ta.len{bs:List Nat}{ο:Int->Int->Int}{A:List (Nat×List Int)}(h:Ta bs ο A):A.length=bs.length:=by rw[<-h.bk,ak]
theorem Ta.blk{bs:List Nat}{ο:Int->Int->Int}{A:List (Nat×List Int)}(h:Ta bs ο A){k:Nat}(hk:k<bs.length):A[k]!.1=bs[k]!:=by
 have T:=h.len;rw[<-h.bk];grind
theorem Ta.Pr{bs:List Nat}{ο:Int->Int->Int}{A:List (Nat×List Int)}(h:Ta bs ο A){k:Nat}(hk:k<bs.length){x v:Int}(M:0<=x/\x<4):Ta bs (Va ο k x v) (A.set k (bs[k]!,(TA ο k).set x.toNat (ο k x+v))):=by
 have T:=h.len;refine⟨?_,λj hj=>?_⟩
 .rw[List.map_set,h.bk];grind [eC]
 .rw[E7 ah,List.getElem_set];by_cases e:k=j
  .rw[Ω e,Ic M,e]
  .rw[Ο e,Kf D,<-h.at_ j hj,E7 (D:j<A.length)]
def Ta.zero(bs:List Nat):Ta bs (λ_ _=>0) (bs.map λb=>(b,[0,0,0,0])):=⟨by rw[cu];exact List.map_id' bs,λk hk=>by rw[eZ hk];rfl⟩
def uf{p nb i:Nat}(hn:nb<=i)(h:p<=16*nb+8*nb*(i - nb)):p+8*nb<=16*nb+8*nb*(i+1 - nb):=by
 rw[show i+1 - nb=(i - nb)+1 by omega,Nat.mul_add];omega
theorem wa{d:Int}{c:B4}(J:0<=d/\d<12){a x:Int}(ha:3<a):∀n (ss:List D7),ss.length=n->(∀s∈ss,s.Ζ=0/\∀m∈s.gN,m.Ν=0/\1<=m.to/\m.to<=3)->ey (ss.foldl bN (L1 d c))<=1000->PK d c (ss.foldl bN (L1 d c))/\aW ((ss.foldl bN (L1 d c)).ξ a x)=0
 | 0,ss,hn,_,_=>by
  obtain rfl:=List.length_eq_zero_iff.1 hn;exact⟨.zero,rfl⟩
 | n+1,ss,hn,hs,hk=>by
  have A:ss≠[]:=ah;obtain⟨l,s,rfl⟩:∃l s,ss=l++[s]:=⟨ss.dropLast,ss.getLast A,(List.dropLast_concat_getLast A).symm⟩;rw[aA,bh] at hn;rw[List.foldl_append] at hk ⊢;have hk:ey (bN (l.foldl bN (L1 d c)) s)<=1000:=hk;have a2:=uF (S:=l.foldl bN (L1 d c)) (s:=s);obtain⟨I,Q⟩:=wa (c:=c) (x:=x) J ha n l D ah D;show PK d c (bN (l.foldl bN (L1 d c)) s)/\aW ((bN (l.foldl bN (L1 d c)) s).ξ a x)=0;by_cases q:(E2 (l.foldl bN (L1 d c)) s).1=0
  .refine⟨.post I q,?_⟩;have e:=jp (l.foldl bN (L1 d c)) s;rw[Ω q] at e;grind [ly,NU,jQ,Sg,gE,pJ]
  grind [bN]
def XP(W:jA):Int->Int->Int->Int:=λi a x=>aW ((W.nd i).2.ξ a x)
theorem Se.sc{n:Int}{l:List Int}{W:F6}(h:Se n l W)(hn:1<=n/\n<=3):PB n 8 (XP W.m) 0 0 [] W.m:=by
 have T:=h.len;have a4:(W.m.D8.length:Int)=n:=by rw[<-T];exact congrArg Int.ofNat (ak _)
 have nd:∀i:Int,0<=i/\i<n->W.m.nd i=(N9,W.cO[i.toNat]!.S)/\U1 l i.toNat W.cO[i.toNat]!:=λi hi=>by
  have a2:i.toNat<W.cO.length:=D;have e:W.m.nd i=W.cO[i.toNat]!.m:=eZ (f:=K2.m) a2;have hs:=h.sd i.toNat a2;refine⟨?_,hs⟩;rw[e];unfold K2.m;rw[hs.n]
 have nf:∀i:Int,W.m.nf i=N9:=λi=>by
  unfold jA.nf;by_cases q:0<=i/\i<W.m.D8.length
  .grind
  .rw[Ο q];rfl
 have a5:W.m.O=[]:=by
  show W.x5.map (·.m)=[];rw[h.O];rfl
 have A:W.m.h1=[]:=h.h1
 have a3:Oy n 8 ⟨λ_=>none,λ_=>none⟩ [] W.m:=by
  refine⟨⟨⟨ah,ah⟩,λi hi=>?_,λy U=>?_,ah⟩,ah,ah,λi hi=>?_⟩
  .have q:=(nd i hi).2.WC;have e:W.m.nd i=W.cO[i.toNat]!.m:=eZ (f:=K2.m) D;rw[show((i.toNat:Nat):Int)=i by omega] at q;rw[e];exact q
  .grind
  .have hk:=(nd i hi).2.sp.k;rw[(nd i hi).1];show ey W.cO[i.toNat]!.S+0+0+0<=8;omega
 refine⟨⟨⟨λ_=>none,λ_=>none⟩,⟨⟨⟨λ_=>none,λ_=>none⟩,rfl,⟨hn,a4,?_,by decide,by rw[A];exact a3,λr ls q=>iJ q (λe=>by cases e),?_,λi hi=>?_⟩,?_⟩,λj hj r x M=>?_,λr q=>q.elim,λ_ _ _ q=>q.elim,λ_ _ _ q=>q.elim⟩,λr ls q=>iJ q (λe=>by cases e),by rw[A];rfl,λj hj=>iJ hj (Nat.not_lt_zero _)⟩,λy U=>(by rw[a5] at U;cases U),by rw[A];exact dp⟩
 .have e:W.m.B=0:=h.B;omega
 .refine⟨ah,λi hi r x M=>?_,λi hi r p hp=>?_,λi hi k hk=>?_,λy U=>?_⟩
  .rw[nf] at M;cases M
  .rw[nf] at hp;cases hp
  .rw[nf] at hk;cases hk
  grind
 .obtain⟨e,hs⟩:=nd i hi;have J:=hs.sp;have hk:=J.k;rw[show((i.toNat:Nat):Int)=i by omega] at J;have e0:W.m.B=0:=h.B;rw[e,e0];refine⟨dp,⟨⟨J.J1.rep,by rw[J.J1.υ];rfl,by rw[J.now];omega⟩,⟨bE 0,by show(0:Int)<=2000;decide⟩,λr p hp=>(by cases hp),λr a6 p p' _ hp=>(by cases hp),λa x ha=>?_,λr p hp=>(by cases hp)⟩,by show(0:Int)<=ey W.cO[i.toNat]!.S;omega,λx=>?_,λa x _=>?_⟩
  .obtain⟨ss,r1,r2⟩:=J.run;have q:=(wa (d:=i) (c:=I4) D (a:=a) (x:=x) (by have ha:268435456+(0:Int)<=a:=ha;omega) _ ss rfl r1 ah).2;grind
  .have:=J.iL x
   grind
  .show aW (W.cO[i.toNat]!.S.ξ a x)=aW ((W.m.nd i).2.ξ a x)+(0+0);grind
 .grind [Pp,wS,NP,jU]
 .rw[nf] at M;cases M
section
variable {F:Int}{b:Nat}{b0:Int->Int->Int->Int}{B3:Int}{p:Nat}{ls:List (List x4)}{W:jA}{c bW ο an:Nat}
structure WO (F:Int) (b0:Int->Int->Int->Int) (Vb:List Int) (ls:List (List x4)) (V:jA):Prop where
 h1:V.h1=Vb
 VO:∀i:Int,0<=i/\i<F->ko (V.nf i)=[]
 Xl:∀r∈Vb,(0<=bX r/\bX r<F)/\dO (V.nf (bX r)) r=if fm V.nf r=true then 2 else 3
 O4:∀r∈Vb,∀k:Int,0<=k/\k<F->dO (V.nf k) r=0\/dO (V.nf k) r=if fm V.nf r=true then 2 else 3
 S7:∀i a x:Int,0<=i/\i<F->a≠0->aW ((V.nd i).2.ξ a x)=b0 i a x+((List.range Vb.length).map λj=>if fm V.nf Vb[j]! = true then XO i a x ls[j]! else 0).sum
theorem NI.XQ{g g0:Gh}{lp:Int->Prop}{C1 C2:Int->Int->Prop}{h1:List Int}(hC:NI F W)(h:C8 F b b0 h1.reverse g0 B3 lp C1 C2 p W)(hn:h1.Nodup)(T:ls.length=h1.length/\∀j,j<ls.length->g0.Β h1[j]! = some ls[j]!)(hi:W.h1=h1):WO F b0 h1 ls W:=by
 obtain⟨fJ,e,hP,_⟩:=h.ex;refine⟨hi,λi hi=>hC.opens hP hi,λr A=>hC.home hP ah,λr A k hk=>hC.agree hP ah hk,λi a x hi ha=>?_⟩;have q:=(hP.nd i hi).S7 a x ha;rw[<-hP.nf hi,hC.Pc hP ah hi a x] at q;rw[q];congr 1;rw[nT (List.reverse_perm h1),uG];grind [aU,cV]
theorem PB.a8(h:PB F b b0 B3 p ls W)(hW:F1 F c bW ο an W)(hc:c<=63)(hi:W.h1.length<=24)(hp:p<=16*W.h1.length+8*W.h1.length*(24 - W.h1.length))(hU:B3<W.B+10)(ht:W.B+10<=1099511627776)(hT:W.B+10<=an):WO F b0 W.h1 ls (cy F { cy F W 4 with B:=W.B+10 } 4):=by
 obtain⟨g,I,Q,h3,h4⟩:=h.ex;have e:W.h1.reverse.length=W.h1.length:=ah;obtain⟨hC,p',hS,A⟩:=Dy I (I.WM hW) hc h.lk D ah rfl ht hU hT;exact hC.XQ (g:=g) hS h.nd ⟨h3,h4⟩ A
theorem PB.c7(h:PB F b b0 B3 p ls W)(hW:F1 F c bW ο an W)(hc:c<=63)(hi:12*W.h1.length<=400)(ht:W.B+10<=1099511627776)(hT:W.B+10<=an):(∀Δ,Δ<4->lO F (ο+7300000000*4) an (cy F W Δ))/\(cy F W 4).B=W.B/\F1 F c b (ο+7300000000*4) an { cy F W 4 with B:=W.B+10 }/\∀Δ,Δ<4->lO F (ο+7300000000*4+7300000000*4) an (cy F { cy F W 4 with B:=W.B+10 } Δ):=by
 obtain⟨g,I,Q,h3,h4⟩:=h.ex;have a7:=I.WM hW;obtain⟨fJ,_,hP,_⟩:=I.ex;have e:W.h1.reverse.length=W.h1.length:=ah;have s1:=oh (n:=4) a7 hc hP.cv hP.hb;obtain⟨p1,J,a2,a3,a4,a5,a6⟩:=qu I a7 hc h.lk D 4;refine⟨s1,a4,?_⟩;generalize cy F W 4=V at *;have b6:=a6.time (t:=W.B+10) ⟨by have:=hW.B.1;omega,hT⟩;have b1:=J.time (t:=W.B+10) D ht;obtain⟨g2,_,A,_⟩:=b1.ex;exact⟨b6,oh (n:=4) b6 hc A.cv A.hb⟩
end
end
section
open Go.V
def Tc(wb:Nat)(F:Int)(W:F6)(k:Nat)(s:K2)(L:Ι):Ι:=aT s.lb s.S::h2 (MN F) (W.cO.eraseIdx k)::obj wb Pz (M0 W)::τ du 1 W.bD (W.cO.map (·.lb))::τ du 1 W.I7 (W.cO.map (·.nb))::Ou be 3 B2 W.gi W.iM W.x5::η gO W.x5::μ (eU .i64) 1 C3 W.I6 W.K1 W.h1::L
def qo{wb:Nat}{F:Int}{W:F6}{k:Nat}(hk:k<W.cO.length){s:K2}(hs:W.cO[k]! = s){L:Ι}:E (F2 wb F W L) (fh s.nb s.lb s.d F s.n (Tc wb F W k s L)):=by
 unfold F2 Tc;refine(E.at (Φ:=h2 (MN F) W.cO) (pm hk hs)).trans ?_;simp only[fh,hl,M0];exact aj
def tR{wb:Nat}{F:Int}{W:F6}{k:Nat}(hk:k<W.cO.length){s:K2}(hs:W.cO[k]! = s){L:Ι}:E (fh s.nb s.lb s.d F s.n (Tc wb F W k s L)) (F2 wb F W L):=by
 unfold F2 Tc;refine(Ly hk hs).trans ?_;simp only[M0];exact aj
def Cg{wb:Nat}{F:Int}{W:F6}{k:Nat}(hk:k<W.cO.length){s:K2}(hs:W.cO[k]! = s){L:Ι}:E (F2 wb F W L) (aT s.lb s.S::fh s.nb s.lb s.d F s.n (Tc wb F W k s L).tail):=by
 refine(qo hk hs).trans ?_;simp only[Tc,fh,hl,List.tail_cons];exact aj
def Ch{wb:Nat}{F:Int}{W:F6}{k:Nat}(hk:k<W.cO.length){s:K2}(hs:W.cO[k]! = s){L:Ι}:E (aT s.lb s.S::fh s.nb s.lb s.d F s.n (Tc wb F W k s L).tail) (F2 wb F W L):=by
 refine E.trans ?_ (tR hk hs);simp only[Tc,fh,hl,List.tail_cons];exact aj
structure Sl (n:Int) (b0:Int->Int->Int->Int) (i:Nat) (os ds:List Ph) (W:F6):Prop where
 wd:F1 n i (8+24*i) (600000000*i) (7*i) W.m
 sc:∃B3 p,PB n (8+48*ds.length) b0 B3 p (ds.map λo=>o.Α.map (·.m)) W.m/\B3<=W.m.B+7/\p<=16*ds.length+8*ds.length*(i - ds.length)
 le:ds.length<=i
 sub:∀o∈ds,o∈os
 ok:Sy W
def Sl.h1{n:Int}{b0:Int->Int->Int->Int}{i:Nat}{os ds:List Ph}{W:F6}(h:Sl n b0 i os ds W):W.h1.length=ds.length:=by
 obtain⟨B3,p,hS,_⟩:=h.sc;obtain⟨g,_,_,q,_⟩:=hS.ex;rw[ak] at q;exact q.symm
theorem Sl.skip{n:Int}{b0:Int->Int->Int->Int}{i:Nat}{os ds:List Ph}{W:F6}(h:Sl n b0 i os ds W):Sl n b0 (i+1) os ds W:=by
 obtain⟨B3,p,hS,hU,hp⟩:=h.sc;have:=uf h.le hp
 exact⟨h.wd.mono D D D D,ah,by have:=h.le;omega,h.sub,h.ok⟩
theorem Sl.next{n:Int}{b0:Int->Int->Int->Int}{i:Nat}{os ds:List Ph}{W W' : F6}{o:Ph}(h:Sl n b0 i os ds W)(ho:T0 n o)(hm:o∈os)(h5:¬o.Ζ=5)(hi:i<24)(hW:W'.m=(Ox n o W.m).2)(a2:Sy W'):(o.Ζ=0/\(Ox n o W.m).1.2=0/\Sl n b0 (i+1) os (ds++[o]) W')\/(¬(o.Ζ=0/\(Ox n o W.m).1.2=0)/\Sl n b0 (i+1) os ds W'):=by
 obtain⟨B3,p,hS,hU,hp⟩:=h.sc;have a5:=h.le;have a4:=tD h.wd ho D D;rw[<-hW] at a4;have J:F1 n (i+1) (8+24*(i+1)) (600000000*(i+1)) (7*(i+1)) W'.m:=D;have a7:=h.wd.B;have A:=h.h1;have a6:W.m.h1.length=ds.length:=A
 have a3:W.m.B<=W'.m.B/\(o.Ζ=0->W'.m.B=W.m.B):=by
  rw[hW];unfold Ox;by_cases k0:o.Ζ=0
  .rw[Ω k0];exact⟨bE _,λ_=>rfl⟩
  rw[Ο k0];refine⟨?_,λq=>iJ q k0⟩;by_cases k4:o.Ζ=4
  .rw[Ω k4];have:=ho.Tw k4
   show W.m.B<=W.m.B+o.wait;omega
  rw[Ο k4,Ο h5];split
  .grind
  .dsimp only;split<;>split<;>exact bE _
 rcases Hb h.wd ho h5 D D D hS D with⟨q1,q2,q3⟩|⟨q1,q3⟩
 .refine .inl ⟨q1,q2,J,⟨_,p+16,by rw[aA,bh,aQ,List.map_singleton,hW,Nat.mul_add,gc,<-dc];exact q3,?_,?_⟩,ah,λy U=>?_,a2⟩
  .have hw:=ho.wait;omega
  .rw[aA,bh];grind
  .rcases J4 U with U|U
   .exact h.sub y U
   grind
 .refine .inr ⟨q1,J,⟨B3,p+8*ds.length,ah,D,uf a5 hp⟩,D,h.sub,a2⟩
theorem Sl.Α{n:Int}{b0:Int->Int->Int->Int}{i:Nat}{os ds:List Ph}{W:F6}(h:Sl n b0 i os ds W)(ho:∀o∈os,T0 n o):∀o∈ds,o.Α.length<=4/\∀y∈o.Α.map (·.m),VM n y:=λo hm=>by
 obtain⟨B3,p,hS,_⟩:=h.sc;obtain⟨g,I,_,h3,h4⟩:=hS.ex;obtain⟨fJ,e,hP,_⟩:=I.ex;obtain⟨j,hj,rfl⟩:=List.mem_iff_getElem.1 hm;have A:=ho _ (h.sub _ hm);refine⟨A.len,λy U=>?_⟩;have T:=h4 j ah;rw[eZ hj,E7 hj,<-e] at T;have q:=(hP.gr _ _ T).2 y U;obtain⟨x,M,rfl⟩:=H8 U;exact VM.of q (A.lg x M)
theorem Ez{W:F6}{i:Int}(h:0<=i/\i<W.cO.length){s:K2}(hs:W.cO[i.toNat]! = s):W.m.nf i=s.n.m:=by
 have e:W.m.D8.length=W.cO.length:=ak _;grind [EA,F6.a8]
def NQ.seen{d:Int}{S:Τ}(A:0<=d/\d<12)(h:NQ d I4 (ey S) S)(hk:ey S<=1900):RM (ey S) S/\pY S.ξ S.Μ/\S.Μ.length<=1000000/\∀a x,0<=aW (S.ξ a x)/\aW (S.ξ a x)<=1099511627776:=by
 obtain⟨i1,i2,i3⟩:=h.rep.all A D;have hf:=i1.g.Μ;refine⟨i1.g,i2.src,D,λa x=>⟨vy (i1.g.ξ a x).D3,?_⟩⟩;by_cases ha:a=0
 .rw[ha,i2.US];show(0:Int)<=_;decide
 .exact Int.le_trans (i2.le ha x) (i2.top x)
structure ZN (n:Int) (b0:Int->Int->Int->Int) (first r:Int) (V:jA):Prop where
 fin:first≠2->dO (V.nf 0) r=3
 ZO:dO (V.nf 0) r=3->∀a x,aW ((V.nd 0).2.ξ a x)=b0 0 a x
 VO:∀i:Int,0<=i/\i<n->ko (V.nf i)=[]
 fl:(V.nd 0).2.Μ.length<=ey (V.nd 0).2
section
variable {n:Int}{b:Nat}{b0:Int->Int->Int->Int}{k:Int}{p:Nat}{ls:List x4}{W W4:jA}{c bW ο an:Nat}{r:Int}
theorem Lr{l:List Int}(hn:l.Nodup)(h:1<l.length):∃j∈l,j≠0:=Classical.byContradiction λq=>by
 have A:∀j∈l,j=0:=ah;match l,hn,h,A with
 | a::c::t,hn,h,A =>
  grind [au]
theorem Se.ZP{l:List Int}{W:F6}(h:Se n l W)(hn:1<=n/\n<=3){o:Ph}(hk:o.Ζ=0)(hs:o.d=0):(¬(Ox n o W.m).1.2=0->(Ox n o W.m).2.O=[]/\(Ox n o W.m).2.h1=[])/\((Ox n o W.m).1.2=0->(Ox n o W.m).2.h1=[(Ox n o W.m).1.1]/\bX (Ox n o W.m).1.1=0/\(Ox n o W.m).2.B=0/\∀j:Int,0<j/\j<n->((Ox n o W.m).2.nd j).1.Γ=[]):=by
 have T:=h.len;have A:W.m.O=[]:=by show W.x5.map _=[];rw[h.O];rfl
 have a2:W.m.h1=[]:=h.h1;have a4:W.m.B=0:=h.B;have a3:(W.m.D8.length:Int)=n:=by rw[<-T];exact congrArg Int.ofNat (ak _)
 have J:∀j:Int,0<=j/\j<n->(W.m.nd j).1=N9:=λj hj=>by
  rw[F6.a8 (W:=W) (k:=j) D rfl];exact(h.sd j.toNat D).n
 have h0:=J 0 D;unfold Ox;rw[Ω hk,hs];rcases ri 0 n (o.Α.map (·.m)) W.m.B (W.m.B+o.wait) (W.m.nd 0).1 (W.m.nd 0).2 with e|e|⟨_,_,_,e⟩
 .rw[e];exact⟨λ_=>⟨by show W.m.O++[]=[];rw[A];rfl,ah⟩,λq=>ah⟩
 .rw[e];exact⟨λ_=>⟨by show W.m.O++[]=[];rw[A];rfl,ah⟩,λq=>ah⟩
 .rw[e];generalize K6 0 W.m.B (iA n 0 (0*4294967296+(W.m.nd 0).1.ν) (o.Α.map (·.m))) (ON (W.m.nd 0).1 n (0*4294967296+(W.m.nd 0).1.ν) (W.m.B+o.wait) (o.Α.map (·.m))) (W.m.nd 0).2=Δ;refine⟨λq=>iJ rfl q,λ_=>⟨?_,?_,a4,λj hj=>?_⟩⟩
  .grind
  .dsimp only;rw[h0];rfl
  .have e2:=ux (W:=W.m) (x:=(Δ.2.1,Δ.2.2)) (d:=0) (i:=j) a3 D D;rw[Ο D] at e2;have e3:=J j D;rw[<-e2] at e3;show(({ W.m with D8:=W.m.D8.set (0:Int).toNat (Δ.2.1,Δ.2.2) }:jA).nd j).1.Γ=[];rw[e3];rfl
theorem PB.first(h:PB n b b0 k p [ls] W)(hW:F1 n c bW ο an W)(hi:W.h1=[r])(h0:bX r=0)(hp:∀j:Int,0<j/\j<n->(W.nd j).1.Γ=[]):(bL ls n.toNat=[0]->dO (W.nf 0) r≠1)/\(1<(bL ls n.toNat).length->dO (W.nf 0) r≠2)/\(dO (W.nf 0) r≠2->∀j:Int,0<=j/\j<n->∀x,ε (W.nf j).Ψ r=some x->x.F4=false):=by
 obtain⟨g,I,Q,h3,h4⟩:=h.ex;obtain⟨fJ,e,hP,_⟩:=I.ex
 have hG:fJ.Β r=some ls:=by
  have q:=h4 0 Nat.zero_lt_one;rw[hi] at q;rw[e];exact q
 have hr:=hP.MY;obtain⟨hc,x,M,T⟩:=hP.ag.rg r ls hG;rw[h0] at hc M;have hT:=(hP.ag.bg 0 hc r x M).2;have a4:=hP.nf hc;have A:dO (W.nf 0) r=if x.dec=false then 1 else if x.F4=true then 2 else 3:=by unfold dO;rw[M]
 refine⟨λhg hs=>?_,λhg hs=>?_,λhs j hj y U=>?_⟩
 .rw[A] at hs
  have hd:x.dec=false:=by
   cases hd:x.dec with
   | false=>rfl
   | true=>grind
  have a5:=(hW.at hc).a.sv r x ah (by rw[hT.Ot,T,hg];grind);have a2:=hT.lt hd;rw[hT.Ot,T,hg] at a2;grind
 .rw[A] at hs
  have hd:x.dec=true/\x.F4=true:=by
   cases hd:x.dec with
   | false=>grind
   | true =>
    grind
  obtain⟨j,hj,a3⟩:=Lr (iP ls n.toNat) hg;have J:=mc D hj;obtain⟨q,hq,_⟩:=hT.tk hd.1 hd.2 j (by rw[hT.Ot,T];exact hj);rw[hP.nf J,hp j ah] at hq;cases hq
 .have e1:=(hP.ag.bg j hj r y U).1;rw[h0] at e1;subst e1;obtain rfl:x=y:=ah;rw[A] at hs;cases hd:x.dec with
  | false=>exact hT.t0 hd
  | true =>
   grind
theorem PB.late(h:PB n b b0 k p [ls] W)(hW:F1 n c bW ο an W)(hi:W.h1=[r])(h0:bX r=0)(hp:∀j:Int,0<j/\j<n->(W.nd j).1.Γ=[])(b3:∀x,b0 0 0 x=0)(ht:W.B<=k+1)(hk:k+1<=1099511627776)(b7:W4.D8=W.D8.set 0 ((cU 0 (k+1) (W.nd 0).1 (W.nd 0).2).2.1,(cU 0 (k+1) (W.nd 0).1 (W.nd 0).2).2.2))(c0:W4.B=k+1)(b6:W4.O.Perm (W.O++(cU 0 (k+1) (W.nd 0).1 (W.nd 0).2).1))(c4:W4.h1=[r])(b2:F1 n c bW ο an W4)(hc:c<=63)(c5:p<=100):(∀Δ,Δ<4->lO n (ο+7300000000*4) an (cy n W4 Δ))/\ZN n b0 (dO (W.nf 0) r) r (cy n W4 4):=by
 obtain⟨g,I,Q,h3,h4⟩:=h.ex;have hf:=(h.first hW hi h0 hp).2.2;have hR:W.h1.reverse.length=1:=by rw[hi];rfl
 have A:0<=(0:Int)/\0<n:=⟨bE 0,by have:=I.MY.2;omega⟩;have q:=I.time (t:=k+1) ht hk
 have s1:C8 n b b0 W.h1.reverse g k (λj=>j=r/\dO (W.nf 0) r≠2) NA NA p { W with B:=k+1 } :=
  ⟨q.ex,q.un,λj hj=>⟨ah,λi b4 x M=>hf hj.2 i b4 x (by rw[<-hj.1];exact M)⟩,q.c1,q.c2⟩
 have b8:=(hW.at A).a.Ol.nb;have s2:=s1.Tw A b8 (late:=True) ah;have s3:=s2.perm (W':=W4) b7 c0 b6
 have c3:(W.h1.reverse.map (aw g n 0)).sum<=12:=by
  have q2:=I.XN;obtain⟨m,hm⟩:∃m,n.toNat=m+1:=⟨n.toNat - 1,D⟩;rw[hm,List.range_succ_eq_map,al,aR,hR] at q2;exact ah
 have s4:C8 n b b0 W.h1.reverse g k (λj=>j=r/\dO (W.nf 0) r≠2) NA NA 200 W4:=(s3.weak ah ah).mono D;have b5:RG W4:=s4.WL (i:=0) (O:=W.O) (by grind [vR]) h.lk;have a9:=s4.WM b2;obtain⟨p',J,a2,a3,a4,a5,a6⟩:=ol s4 a9 hc b5 D D 4;have hC:NI n (cy n W4 4):=ah;obtain⟨g4,_,a7,_⟩:=s4.ex;refine⟨oh (n:=4) a9 hc a7.cv a7.hb,?_⟩;have hE:WO n b0 W.h1 [ls] (cy n W4 4):=hC.XQ (g:=g) J h.nd ⟨h3,h4⟩ ah;rw[hi] at hE;have hm:r∈[r]:=ah;have hs:=(hE.Xl r hm).2;rw[h0] at hs;obtain⟨g5,_,b1,_⟩:=J.ex;refine⟨λb9=>?_,λhu a x=>?_,hE.VO,(b1.cv.cv.nd 0 A).ls.J1.fk⟩
 .have ht:fm (cy n W4 4).nf r=false:=by
   unfold fm;rw[h0];cases hg:ε ((cy n W4 4).nf 0).Ψ r with
   | none=>rfl
   | some x=>show(x.dec && x.F4)=false;rw[(J.no r ⟨rfl,b9⟩).2 0 A x hg,Bool.and_false]
  grind
 .have ht:fm (cy n W4 4).nf r=false:=by
   cases ht:fm (cy n W4 4).nf r with
   | false=>rfl
   | true=>grind
  by_cases ha:a=0
  .have hN:=a6.at A;obtain⟨_,i2,_⟩:=hN.a.hin.J1.rep.all D (by have:=hN.bd;have:=a7.hb;omega);rw[ha,i2.US,b3];rfl
  .rw[hE.S7 0 a x A ha];grind
end
end
section
open Go.V
def so{n:Int}{ls:List x4}(h:∀l∈ls,0<=l.d/\l.d<n)(hn:0<=n):∀k:Nat,bL ls (n.toNat+k)=bL ls n.toNat
 | 0=>rfl
 | k+1=>by
  rw[<-dc,nt,so h hn k,Ο,aJ];rintro⟨l,T,e⟩;have:=h l T
  omega
attribute [local irreducible] Β Y GP δ vi GF GE Z Ef C0 E CB GB V.Enters bH K6
def yi{L:Ι}(ad:OA)(c:Nat)(ls:List MT)[hrd:F5 L ad MT aZ 5 ls](T:ls.length<=1000) :
  Υ Λ 27 #[ae ad ls.length c] L (λv Ε=>∃a6 a2,v=ae a6 (bL (ls.map (·.m)) 12).length a2/\Ε = μ (eU .i64) 1 C3 a6 a2 (bL (ls.map (·.m)) 12)::L):=by
 refine Υ.bd ?_;refine ML ?_;intros;refine Β.loop (α:=Nat×OA×Nat) (λg=>g.1<=12) (λg=>[(0,ae ad ls.length c),(3,ae g.2.1 (bL (ls.map (·.m)) g.1).length g.2.2),(4,K (g.1:Int))]) (λg=>μ (eU .i64) 1 C3 g.2.1 g.2.2 (bL (ls.map (·.m)) g.1)::L) (λg=>12 - g.1) (0,none,0) ac aG ?_ ?_
 .exact E.c8 (eU .i64) 1 C3
 rintro⟨s,M4,OT⟩ hs;dsimp only at hs ⊢;by_cases b4:s<12
 case neg =>
  have e:s=12:=D;subst e;refine ML ?_;intros;exact KX.en ⟨M4,OT,rfl,rfl⟩
 have b5:(s:Int)<12:=D;have b2:=jx (ls.map (·.m)) s;refine ML ?_;intros;refine Β.loop (α:=Nat×Bool) (λg=>g.1<=ls.length/\(g.2=true↔∃l∈(ls.map (·.m)).take g.1,l.d=(s:Int))) (λg=>[(0,ae ad ls.length c),(3,ae M4 (bL (ls.map (·.m)) s).length OT),(4,K (s:Int)),(5,.bool g.2),(6,K (g.1:Int))]) (λ_=>μ (eU .i64) 1 C3 M4 OT (bL (ls.map (·.m)) s)::L) (λg=>ls.length - g.1) (0,false) ⟨aD _,⟨(λq=>by cases q),λ⟨l,T,_⟩=>iJ T aH⟩⟩ aG (E.refl _) ?_;rintro⟨i,f⟩ ⟨hi,hf⟩;dsimp only at hi hf ⊢;by_cases a7:i<ls.length
 case neg =>
  have a5:(ls.map (·.m)).take i=ls.map (·.m):=aN (by rw[ak];omega);rw[a5] at hf;have A:=nt (ls.map (·.m)) s;cases f with
  | false =>
   rw[Ο (λq=>by have:=hf.2 q;cases this),aJ] at A;refine ML ?_;intros;refine⟨(s+1,M4,OT),by dsimp only;omega,by dsimp only;omega,?_,?_⟩
   .dsimp only;rw[A,bJ s];exact aG
   .dsimp only;rw[A];exact E.refl _
  | true =>
   rw[Ω (hf.1 rfl)] at A;refine ML ?_;intros;refine Y.ef (Ef.a8 (Η:=eU .i64) (e:=(s:Int)) rfl rfl rfl rfl rfl aY (by simp[eU,Value.oneCell']) D D) ac ?_;rintro _ _⟨a4,a3,rfl,rfl⟩;refine ML ?_;intros;refine⟨(s+1,a4,a3),by dsimp only;omega,by dsimp only;omega,?_,?_⟩
   .dsimp only;rw[A,bJ s];exact aG
   .dsimp only;rw[A];exact E.refl _
 have b0:(i:Int).toNat=i:=D;have b3:(i:Int)<(ls.length:Int):=D
 have a9:(ls.map (·.m)).take (i+1)=(ls.map (·.m)).take i++[ls[i]!.m]:=by
  rw[aB (by rw[ak];exact a7),eW,<-E7 a7]
 obtain⟨y,U⟩:∃y,ls[(i:Int).toNat]! = y:=⟨_,rfl⟩;have b1:ls[i]! = y:=by rw[<-b0];exact U
 rw[b1] at a9
 have J:∀f2:Bool,(f2=true↔f=true\/y.m.d=(s:Int))->(f2=true↔∃l∈(ls.map (·.m)).take (i+1),l.d=(s:Int)):=λf2 Q=>by
  rw[Q,a9,hf];constructor
  .rintro (⟨l,I,h3⟩|I)
   .exact⟨l,cx _ I,h3⟩
   .exact⟨y.m,cj _ au,I⟩
  .rintro⟨l,I,h3⟩;rcases J4 I with I|I
   .exact .inl ⟨l,I,h3⟩
   .rw[GO I] at h3;exact .inr h3
 cases f with
 | true =>
  refine ML ?_;intros;refine⟨(i+1,true),⟨by dsimp only;omega,J true ⟨λ_=>.inl rfl,λ_=>rfl⟩⟩,by dsimp only;omega,?_,E.refl _⟩;dsimp only;rw[bJ i];exact aG
 | false =>
  by_cases hq:y.m.d=(s:Int)
  .refine ML ?_;intros;rw[U];refine ML ?_;intros;refine⟨(i+1,true),⟨by dsimp only;omega,J true ⟨λ_=>.inr hq,λ_=>rfl⟩⟩,by dsimp only;omega,?_,E.refl _⟩;dsimp only;rw[bJ i,bO hq];exact aG
  .refine ML ?_;intros;rw[U];refine ML ?_;intros;refine⟨(i+1,false),⟨by dsimp only;omega,J false ⟨(λq=>by cases q),λq=>q.elim (λz=>by cases z) λz=>iJ z hq⟩⟩,by dsimp only;omega,?_,E.refl _⟩;dsimp only;rw[bJ i,bz hq];exact aG
