/- Lemmas. -/
import Derived.Test.YtlgpgjdggilkgaaGreatDoorEtbq
set_option linter.all false
namespace Go.Proofs.YtlgpgjdggilkgaaGreatDoor
section
open Go.V
theorem vV{d:Int}{c:B0}(M:0<=d/\d<12){a x:Int}(ha:3<a):∀n (ss:List D6),ss.length=n->(∀s∈ss,s.Δ=0/\∀m∈s.fe,m.Λ=0/\1<=m.to/\m.to<=3)->dg (ss.foldl bM (L3 d c))<=1000->P5 d c (ss.foldl bM (L3 d c))/\aY ((ss.foldl bM (L3 d c)).ν a x)=0
 | 0,ss,hn,_,_=>by
  obtain rfl:=List.length_eq_zero_iff.1 hn;exact⟨.zero,rfl⟩
 | n+1,ss,hn,hs,hk=>by
  have B:ss≠[]:=aj;obtain⟨l,s,rfl⟩:∃l s,ss=l++[s]:=⟨ss.dropLast,ss.getLast B,(List.dropLast_concat_getLast B).symm⟩;rw[ay,aX] at hn;rw[List.foldl_append] at hk ⊢;have hk:dg (bM (l.foldl bM (L3 d c)) s)<=1000:=hk;have a2:=uz (S:=l.foldl bM (L3 d c)) (s:=s);obtain⟨K,T⟩:=vV (c:=c) (x:=x) M ha n l D aj D;show P5 d c (bM (l.foldl bM (L3 d c)) s)/\aY ((bM (l.foldl bM (L3 d c)) s).ν a x)=0;by_cases q:(E2 (l.foldl bM (L3 d c)) s).1=0
  .refine⟨.post K q,?_⟩;have e:=jq (l.foldl bM (L3 d c)) s;rw[Χ q] at e;grind [lB,Og,jS,SM,gD,pO]
  grind [bM]
def VG(W:iK):Int->Int->Int->Int:=λi a x=>aY ((W.nd i).2.ν a x)
theorem TA.sc{n:Int}{l:List Int}{W:G1}(h:TA n l W)(hn:1<=n/\n<=3):QW n 8 (VG W.m) 0 0 [] W.m:=by
 have U:=h.len;have a4:(W.m.E7.length:Int)=n:=by rw[<-U];exact congrArg Int.ofNat (al _)
 have nd:∀i:Int,0<=i/\i<n->W.m.nd i=(OF,W.aa[i.toNat]!.S)/\Vv l i.toNat W.aa[i.toNat]!:=λi hi=>by
  have a2:i.toNat<W.aa.length:=D;have e:W.m.nd i=W.aa[i.toNat]!.m:=eJ (f:=K2.m) a2;have hs:=h.sd i.toNat a2;refine⟨?_,hs⟩;rw[e];unfold K2.m;rw[hs.n]
 have nf:∀i:Int,W.m.nf i=OF:=λi=>by
  unfold iK.nf;by_cases q:0<=i/\i<W.m.E7.length
  .grind
  .rw[Ν q];rfl
 have a5:W.m.Q=[]:=by
  show W.B4.map (·.m)=[];rw[h.Q];rfl
 have B:W.m.gR=[]:=h.gR
 have a3:OU n 8 ⟨λ_=>none,λ_=>none⟩ [] W.m:=by
  refine⟨⟨⟨aj,aj⟩,λi hi=>?_,λy Y=>?_,aj⟩,aj,aj,λi hi=>?_⟩
  .have q:=(nd i hi).2.W7;have e:W.m.nd i=W.aa[i.toNat]!.m:=eJ (f:=K2.m) D;rw[show((i.toNat:Nat):Int)=i by omega] at q;rw[e];exact q
  .grind
  .have hk:=(nd i hi).2.sp.k;rw[(nd i hi).1];show dg W.aa[i.toNat]!.S+0+0+0<=8;omega
 refine⟨⟨⟨λ_=>none,λ_=>none⟩,⟨⟨⟨λ_=>none,λ_=>none⟩,rfl,⟨hn,a4,?_,by decide,by rw[B];exact a3,λA ls q=>hD q (λe=>by cases e),?_,λi hi=>?_⟩,?_⟩,λj hj A x O=>?_,λA q=>q.elim,λ_ _ _ q=>q.elim,λ_ _ _ q=>q.elim⟩,λA ls q=>hD q (λe=>by cases e),by rw[B];rfl,λj hj=>hD hj (fN _)⟩,λy Y=>(by rw[a5] at Y;cases Y),by rw[B];exact dq⟩
 .have e:W.m.E=0:=h.E;omega
 .refine⟨aj,λi hi A x O=>?_,λi hi A p hp=>?_,λi hi k hk=>?_,λy Y=>?_⟩
  .rw[nf] at O;cases O
  .rw[nf] at hp;cases hp
  .rw[nf] at hk;cases hk
  grind
 .obtain⟨e,hs⟩:=nd i hi;have M:=hs.sp;have hk:=M.k;rw[show((i.toNat:Nat):Int)=i by omega] at M;have e0:W.m.E=0:=h.E;rw[e,e0];refine⟨dq,⟨⟨M.K1.rep,by rw[M.K1.π];rfl,by rw[M.now];omega⟩,⟨bE 0,by show(0:Int)<=2000;decide⟩,λA p hp=>(by cases hp),λA a6 p p' _ hp=>(by cases hp),λa x ha=>?_,λA p hp=>(by cases hp)⟩,by show(0:Int)<=dg W.aa[i.toNat]!.S;omega,λx=>?_,λa x _=>?_⟩
  .obtain⟨ss,r1,r2⟩:=M.run;have q:=(vV (d:=i) (c:=I6) D (a:=a) (x:=x) (by have ha:268435456+(0:Int)<=a:=ha;omega) _ ss rfl r1 aj).2;grind
  .have:=M.id x
   grind
  .show aY (W.aa[i.toNat]!.S.ν a x)=aY ((W.m.nd i).2.ν a x)+(0+0);grind
 .grind [PN,wS,N8,jW]
 .rw[nf] at O;cases O
section
variable {G:Int}{b:Nat}{b0:Int->Int->Int->Int}{A9:Int}{p:Nat}{ls:List (List lu)}{W:iK}{c bW ε ac:Nat}
structure Ya (G:Int) (b0:Int->Int->Int->Int) (VH:List Int) (ls:List (List lu)) (V:iK):Prop where
 gR:V.gR=VH
 Z4:∀i:Int,0<=i/\i<G->lh (V.nf i)=[]
 XD:∀A∈VH,(0<=bZ A/\bZ A<G)/\fU (V.nf (bZ A)) A=if ej V.nf A=true then 2 else 3
 Pk:∀A∈VH,∀k:Int,0<=k/\k<G->fU (V.nf k) A=0\/fU (V.nf k) A=if ej V.nf A=true then 2 else 3
 TE:∀i a x:Int,0<=i/\i<G->a≠0->aY ((V.nd i).2.ν a x)=b0 i a x+((List.range VH.length).map λj=>if ej V.nf VH[j]! = true then VF i a x ls[j]! else 0).sum
theorem Oa.Z5{g g0:Gh}{iL:Int->Prop}{C1 C2:Int->Int->Prop}{gR:List Int}(hC:Oa G W)(h:D3 G b b0 gR.reverse g0 A9 iL C1 C2 p W)(hn:gR.Nodup)(U:ls.length=gR.length/\∀j,j<ls.length->g0.Α gR[j]! = some ls[j]!)(hi:W.gR=gR):Ya G b0 gR ls W:=by
 obtain⟨ew,e,hP,_⟩:=h.ex;refine⟨hi,λi hi=>hC.opens hP hi,λA B=>hC.home hP aj,λA B k hk=>hC.agree hP aj hk,λi a x hi ha=>?_⟩;have q:=(hP.nd i hi).TE a x ha;rw[<-hP.nf hi,hC.Pz hP aj hi a x] at q;rw[q];congr 1;rw[nX (List.reverse_perm gR),uA];grind [aV,cU]
theorem QW.settled(h:QW G b b0 A9 p ls W)(hW:F8 G c bW ε ac W)(hc:c<=63)(hi:W.gR.length<=24)(hp:p<=16*W.gR.length+8*W.gR.length*(24 - W.gR.length))(hU:A9<W.E+10)(ht:W.E+10<=1099511627776)(hT:W.E+10<=ac):Ya G b0 W.gR ls (cP G { cP G W 4 with E:=W.E+10 } 4):=by
 obtain⟨g,K,T,h3,h4⟩:=h.ex;have e:W.gR.reverse.length=W.gR.length:=aj;obtain⟨hC,p',hS,B⟩:=DB K (K.X9 hW) hc h.lk D aj rfl ht hU hT;exact hC.Z5 (g:=g) hS h.nd ⟨h3,h4⟩ B
theorem QW.safe(h:QW G b b0 A9 p ls W)(hW:F8 G c bW ε ac W)(hc:c<=63)(hi:12*W.gR.length<=400)(ht:W.E+10<=1099511627776)(hT:W.E+10<=ac):(∀r,r<4->mS G (ε+7300000000*4) ac (cP G W r))/\(cP G W 4).E=W.E/\F8 G c b (ε+7300000000*4) ac { cP G W 4 with E:=W.E+10 }/\∀r,r<4->mS G (ε+7300000000*4+7300000000*4) ac (cP G { cP G W 4 with E:=W.E+10 } r):=by
 obtain⟨g,K,T,h3,h4⟩:=h.ex;have a7:=K.X9 hW;obtain⟨ew,_,hP,_⟩:=K.ex;have e:W.gR.reverse.length=W.gR.length:=aj;have s1:=rX (n:=4) a7 hc hP.cv hP.hb;obtain⟨p1,M,a2,a3,a4,a5,a6⟩:=qw K a7 hc h.lk D 4;refine⟨s1,a4,?_⟩;generalize cP G W 4=V at *;have b6:=a6.time (t:=W.E+10) ⟨by have:=hW.E.1;omega,hT⟩;have b1:=M.time (t:=W.E+10) D ht;obtain⟨g2,_,B,_⟩:=b1.ex;exact⟨b6,rX (n:=4) b6 hc B.cv B.hb⟩
end
end
section
open Go.V
def Te(wb:Nat)(G:Int)(W:G1)(k:Nat)(s:K2)(L:Η):Η:=aU s.lb s.S::ey (K5 G) (W.aa.eraseIdx k)::obj wb PK (K3 W)::ξ dl 1 W.bG (W.aa.map (·.lb))::ξ dl 1 W.I3 (W.aa.map (·.nb))::OS bq 3 B1 W.fH W.iI W.B4::Ψ gM W.B4::Ω (dJ .i64) 1 B7 W.I2 W.J4 W.gR::L
def tP{wb:Nat}{G:Int}{W:G1}{k:Nat}(hk:k<W.aa.length){s:K2}(hs:W.aa[k]! = s){L:Η}:F (B9 wb G W L) (eu s.nb s.lb s.d G s.n (Te wb G W k s L)):=by
 unfold B9 Te;refine(F.at (Ο:=ey (K5 G) W.aa) (nL hk hs)).trans ?_;simp only[eu,gL,K3];exact ak
def oH{wb:Nat}{G:Int}{W:G1}{k:Nat}(hk:k<W.aa.length){s:K2}(hs:W.aa[k]! = s){L:Η}:F (eu s.nb s.lb s.d G s.n (Te wb G W k s L)) (B9 wb G W L):=by
 unfold B9 Te;refine(FO hk hs).trans ?_;simp only[K3];exact ak
def Kd{wb:Nat}{G:Int}{W:G1}{k:Nat}(hk:k<W.aa.length){s:K2}(hs:W.aa[k]! = s){L:Η}:F (B9 wb G W L) (aU s.lb s.S::eu s.nb s.lb s.d G s.n (Te wb G W k s L).tail):=by
 refine(tP hk hs).trans ?_;simp only[Te,eu,gL,List.tail_cons];exact ak
def Ke{wb:Nat}{G:Int}{W:G1}{k:Nat}(hk:k<W.aa.length){s:K2}(hs:W.aa[k]! = s){L:Η}:F (aU s.lb s.S::eu s.nb s.lb s.d G s.n (Te wb G W k s L).tail) (B9 wb G W L):=by
 refine F.trans ?_ (oH hk hs);simp only[Te,eu,gL,List.tail_cons];exact ak
structure Sd (n:Int) (b0:Int->Int->Int->Int) (i:Nat) (os ds:List Pf) (W:G1):Prop where
 wd:F8 n i (8+24*i) (600000000*i) (7*i) W.m
 sc:∃A9 p,QW n (8+48*ds.length) b0 A9 p (ds.map λo=>o.Z.map (·.m)) W.m/\A9<=W.m.E+7/\p<=16*ds.length+8*ds.length*(i - ds.length)
 le:ds.length<=i
 sub:∀o∈ds,o∈os
 ok:Tz W
def Sd.gR{n:Int}{b0:Int->Int->Int->Int}{i:Nat}{os ds:List Pf}{W:G1}(h:Sd n b0 i os ds W):W.gR.length=ds.length:=by
 obtain⟨A9,p,hS,_⟩:=h.sc;obtain⟨g,_,_,q,_⟩:=hS.ex;rw[al] at q;exact q.symm
theorem Sd.skip{n:Int}{b0:Int->Int->Int->Int}{i:Nat}{os ds:List Pf}{W:G1}(h:Sd n b0 i os ds W):Sd n b0 (i+1) os ds W:=by
 obtain⟨A9,p,hS,hU,hp⟩:=h.sc;have:=ud h.le hp
 exact⟨h.wd.mono D D D D,aj,by have:=h.le;omega,h.sub,h.ok⟩
theorem Sd.next{n:Int}{b0:Int->Int->Int->Int}{i:Nat}{os ds:List Pf}{W W' : G1}{o:Pf}(h:Sd n b0 i os ds W)(ho:TZ n o)(hm:o∈os)(h5:¬o.Δ=5)(hi:i<24)(hW:W'.m=(QM n o W.m).2)(a2:Tz W'):(o.Δ=0/\(QM n o W.m).1.2=0/\Sd n b0 (i+1) os (ds++[o]) W')\/(¬(o.Δ=0/\(QM n o W.m).1.2=0)/\Sd n b0 (i+1) os ds W'):=by
 obtain⟨A9,p,hS,hU,hp⟩:=h.sc;have a5:=h.le;have a4:=Jp h.wd ho D D;rw[<-hW] at a4;have M:F8 n (i+1) (8+24*(i+1)) (600000000*(i+1)) (7*(i+1)) W'.m:=D;have a7:=h.wd.E;have B:=h.gR;have a6:W.m.gR.length=ds.length:=B
 have a3:W.m.E<=W'.m.E/\(o.Δ=0->W'.m.E=W.m.E):=by
  rw[hW];unfold QM;by_cases k0:o.Δ=0
  .rw[Χ k0];exact⟨bE _,λ_=>rfl⟩
  rw[Ν k0];refine⟨?_,λq=>hD q k0⟩;by_cases k4:o.Δ=4
  .rw[Χ k4];have:=ho.Ut k4
   show W.m.E<=W.m.E+o.wait;omega
  rw[Ν k4,Ν h5];split
  .grind
  .dsimp only;split<;>split<;>exact bE _
 rcases Mu h.wd ho h5 D D D hS D with⟨q1,q2,q3⟩|⟨q1,q3⟩
 .refine .inl ⟨q1,q2,M,⟨_,p+16,by rw[ay,aX,aQ,List.map_singleton,hW,Nat.mul_add,ga,<-dh];exact q3,?_,?_⟩,aj,λy Y=>?_,a2⟩
  .have hw:=ho.wait;omega
  .rw[ay,aX];grind
  .rcases J8 Y with Y|Y
   .exact h.sub y Y
   grind
 .refine .inr ⟨q1,M,⟨A9,p+8*ds.length,aj,D,ud a5 hp⟩,D,h.sub,a2⟩
theorem Sd.Z{n:Int}{b0:Int->Int->Int->Int}{i:Nat}{os ds:List Pf}{W:G1}(h:Sd n b0 i os ds W)(ho:∀o∈os,TZ n o):∀o∈ds,o.Z.length<=4/\∀y∈o.Z.map (·.m),Su n y:=λo hm=>by
 obtain⟨A9,p,hS,_⟩:=h.sc;obtain⟨g,K,_,h3,h4⟩:=hS.ex;obtain⟨ew,e,hP,_⟩:=K.ex;obtain⟨j,hj,rfl⟩:=List.mem_iff_getElem.1 hm;have B:=ho _ (h.sub _ hm);refine⟨B.len,λy Y=>?_⟩;have U:=h4 j aj;rw[eJ hj,D7 hj,<-e] at U;have q:=(hP.gr _ _ U).2 y Y;obtain⟨x,O,rfl⟩:=H9 Y;exact Su.of q (B.lg x O)
theorem EF{W:G1}{i:Int}(h:0<=i/\i<W.aa.length){s:K2}(hs:W.aa[i.toNat]! = s):W.m.nf i=s.n.m:=by
 have e:W.m.E7.length=W.aa.length:=al _;grind [EG,G1.a8]
def Kw{bs:List Nat}{ε:Int->Int->Int}{B:List (Nat×List Int)}(h:Ql bs ε B){k:Nat}(hk:k<bs.length){L:Η}:F (Ω (dJ .i64) 1 B7 (some ⟨bs[k]!,0,none⟩) 4 (OG ε k)::ey O1 (B.eraseIdx k)::L) (ey O1 B::L):=by
 have U:=h.len;rw[<-h.blk hk,<-h.at_ k hk];exact(F.UI (f:=O1) (x:=B[k]!)).trans (F.g9 (pX D).symm)
def Gu{n i a x:Int}{ds:List Pf}{tk:Nat->Bool}(ha:0<=a/\a<20)(h:∀o∈ds,∀y∈o.Z.map (·.m),Su n y):PA (20*i+a) x ((List.range ds.length).map λq=>(ds[q]!.Z.map (·.m),tk q))=((List.range ds.length).map λj=>if tk j=true then VF i a x (ds.map λo=>o.Z.map (·.m))[j]! else 0).sum:=by
 unfold PA;rw[co];refine congrArg List.sum (aV λj hj=>?_);have hj:=List.mem_range.1 hj;show(if tk j=true then Qa (20*i+a) x (ds[j]!.Z.map (·.m)) else 0)=_;rw[Mc (h _ (bA hj)) ha,eJ hj]
def Oc.seen{d:Int}{S:Ρ}(B:0<=d/\d<12)(h:Oc d I6 (dg S) S)(hk:dg S<=1900):Sk (dg S) S/\rS S.ν S.Κ/\S.Κ.length<=1000000/\∀a x,0<=aY (S.ν a x)/\aY (S.ν a x)<=1099511627776:=by
 obtain⟨i1,i2,i3⟩:=h.rep.all B D;have hf:=i1.g.Κ;refine⟨i1.g,i2.src,D,λa x=>⟨vu (i1.g.ν a x).C8,?_⟩⟩;by_cases ha:a=0
 .rw[ha,i2.WK];show(0:Int)<=_;decide
 .exact Int.le_trans (i2.le ha x) (i2.top x)
