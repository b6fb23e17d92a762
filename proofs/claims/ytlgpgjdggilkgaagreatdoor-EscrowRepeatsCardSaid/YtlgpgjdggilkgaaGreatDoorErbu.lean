/- Exchanges: EscrowRepeats. -/
import Derived.Test.YtlgpgjdggilkgaaGreatDoorErbt
set_option linter.all false
set_option maxHeartbeats 16000000
namespace Go.Proofs.YtlgpgjdggilkgaaGreatDoor
open Go.V
def Eo(n:Int):id (IntKind.i64.wrap n):=by
 have e1:IntKind.i64.bits=64:=rfl;have e2:IntKind.i64.signed=true:=rfl;unfold id IntKind.wrap;simp only[e1,e2,Bool.true_and];split
 .rename_i h;simp at h;omega
 .rename_i h;simp at h;omega
attribute [local irreducible] Δ R GP Ο h2 GF GE O Ef A8 A CB GB V.Enters bF Ix
abbrev AH:=Uw [.ev 8]
abbrev AG:=Uz [.ev 17,.ef 18,.ef 19,.ev 20,.ev 21,.ef 22]
abbrev AF:=Uw [.ef 8,.ev 9]
abbrev AE:=Uy [.ev 13,.ev 14,.ev 15,.ef 16,.ef 17,.ef 18,.ev 19]
abbrev AD:=Uy [.ef 13]
abbrev AC:=Uu [.ev 4,.ef 5,.ev 6,.ev 7,.ev 8,.ev 9,.ev 10,.ev 11,.ev 12,.ev 13,.ev 14,.ev 15,.ev 16,.ev 18,.ef 17,.ef 19,.ev 20,.ev 21]
abbrev AB:=Uy [.ev 13,.ev 14,.ev 16,.ev 17,.ev 18,.ev 19,.ef 15,.ev 20]
abbrev AA:=Uy [.ef 13,.ev 14,.ev 15,.ev 16,.ev 17,.ev 18,.ev 19,.ev 20,.ev 21,.ev 22,.ev 23,.ev 24,.ev 25,.ev 26,.ev 27,.ev 28,.ev 29,.ef 30,.ev 31,.ev 32,.ev 33]
def be{φ ψ:Prop}(k:ψ)(h:Hid ψ->φ:=by intro k;(with_reducible apply Δ.a8);first|refine Δ.dr 259 14 AH (Hid.out k)|refine Δ.dr 259 15 AG (Hid.out k)|refine Δ.dr 259 17 AF (Hid.out k)|refine Δ.dr 259 22 AE (Hid.out k)|refine Δ.dr 259 23 AD (Hid.out k)|refine Δ.dr 259 24 AC (Hid.out k)|refine Δ.dr 259 29 AB (Hid.out k)|refine Δ.dr 259 32 AA (Hid.out k)):φ:=h ⟨k⟩
def TJ{φ ψ:Prop}(k:ψ)(h:Hid ψ->φ:=by intro k;(repeat (first|refine aa ?_|intro sh|refine be ?_));(repeat revert sh);exact Hid.out k):φ:=h ⟨k⟩
def oZ{L:LH}(M:OA)(m c:Nat)(D:List Int)[hrd:C7 L M Int (a0 .i64) 1 D](hm:m=D.length)(z1:m<=9223372036854775807)(hc:m<=c)(K:∀x∈D,id x)(i0:OA)(m1 c1:Nat)(ys:List Int)[w2:C7 L i0 Int (a0 .i64) 1 ys](u8:m1=ys.length)(j4:m1<=9223372036854775807)(y1:m1<=c1)(Z:∀x∈ys,id x)(a6:Int)(hs:id a6)(a4:Int)(z5:id a4) :
  Λ Ε 7 #[ae M m c,ae i0 m1 c1,E a6,E a4] (bO::L) (C9 (.bool true) L):=by
 subst hm u8;refine Λ.bd ?_;refine TJ ?_;intros;refine R.ca (jj a6 2 hs ac ac) ?_;rintro _ _⟨p,rfl,⟨v5,v9⟩,rfl⟩;refine TJ ?_;intros;obtain⟨n,hn⟩:∃n:Int,2+p=n:=⟨_,rfl⟩;rw[hn];have z3:2<=n/\n<=3:=B;have b3:1<=n/\n<=12:=B;refine TJ ?_;intros;refine R.ca (rf n b3 M D.length c D rfl hc K) ?_;rintro _ _⟨wb,W0,rfl,e4,rfl⟩;have s9:=e4.wd b3
 have s8:M9 n W0.m:=by
  refine⟨λi hi=>?_,λy Z=>?_⟩
  .have hl:=e4.len;rw[E4.a8 (W:=W0) (k:=i) B rfl];have q:=(e4.sd i.toNat B).n;intro k x hk;dsimp only at hk;rw[q] at hk;exact iW hk (λe=>by cases e)
  .have e:W0.m.T=[]:=by show W0.ia.map _=[];rw[e4.T];rfl
   rw[e] at Z;cases Z
 have t0:N2 W0:=λi hi=>(e4.sd i hi).d;simp only[E6,G9];refine TJ ?_;intros;refine R.ca (xA n b3 i0 c1 ys Z j4 20 ac) ?_;rintro _ _⟨I,r,os,rfl,⟨z4,ho⟩,rfl⟩;clear e4 hn v5 v9;refine TJ ?_;intros;refine Δ.loop (α:=Nat×E4) (λg=>g.1<=os.length/\(IX n (2*g.1) (8+48*g.1) (1200000000*g.1) (14*g.1) g.2.m/\M9 n g.2.m)/\N2 g.2) (λg=>[(3,E a4),(9,E n),(10,al wb),(12,ae I os.length r),(13,E (g.1:Int))]) (λg=>Υ dD 5 Jw I r os::Ρ I6 os::E6 wb n g.2 (bO::L)) (λg=>os.length - g.1) (0,W0) ⟨aC _,⟨s9,s8⟩,t0⟩ aA (by simp only[E6,G9];exact ag) ?_;rintro⟨i,W⟩ ⟨hi,⟨hI,hH⟩,hS⟩;dsimp only at hi hI hH hS ⊢;by_cases u5:i<os.length
 case neg =>
  refine TJ ?_;intros;refine R.υ (Y:=bO::L) (by simp only[E6,G9];exact ag) ?_;refine R.cr (BG) ?_;refine TJ ?_;intros;exact KX.a8 aw A.drop ⟨rfl,rfl⟩
 have d2:=bA u5;have u1:(i:Int).toNat=i:=B;have h6:=ho _ d2;have t9:i<20:=B;refine TJ ?_;intros;rw[u1];generalize os[i]! = o at *;have b0:=Fr hI h6 B B;have c0:=HC hI B h6 hH;refine R.υ (Y:=I6 o::E6 wb n W (Υ dD 5 Jw I r os::Ρ I6 os::bO::L)) ((A.at (Μ:=Ρ I6 os) (A.d8 (f:=I6) d2)).trans (by simp only[E6,G9];exact ag)) ?_;refine R.ca (GU wb n W o hI h6 hS B B B B) ?_;obtain⟨F0,hD⟩:∃F0,NB n o W.m=F0:=⟨_,rfl⟩;rw[hD] at b0 c0 ⊢;rintro _ _⟨W1,rfl,⟨r0,r6⟩,rfl⟩;rw[<-r0] at b0 c0;have U:=r6.d hS;clear hI hH hS r0 r6 hD h6 d2;have p3:=(E4.c8 b0).1;have v0:=(E4.c8 b0).2;simp only[E6,G9];by_cases hz:W1.ia.length=0
 .refine TJ ?_;intros;refine⟨(i+1,W1),⟨by dsimp only;omega,⟨b0.mono iG iG iG iG,c0⟩,U⟩,by dsimp only;omega,?_,?_⟩
  .dsimp only;rw[bC i];exact aA
  .dsimp only;exact ag
 repeat first|refine Δ.sn 11 ?_|refine cR ?_|intro _|refine be ?_
 obtain⟨wi,n2⟩:∃wi,IntKind.i64.wrap (a4+(i:Int))=wi:=⟨_,rfl⟩;have e1:id wi:=by rw[<-n2];exact Eo _
 have r2 : (W1.ia.length:Int)<=100000000000:=B;refine Δ.c7 (α:=Nat×Int) (λz=>0<=z.2/\z.2<W1.ia.length) (λz=>[(3,E a4),(9,E n),(10,al wb),(12,ae I os.length r),(13,E (i:Int)),(14,.pointer (some ⟨z.1,0,none⟩))]) (λz=>obj z.1 hy (aV W1.ia[z.2.toNat]!)::Υ dD 5 Jw I r os::Ρ I6 os::E6 wb n W1 (bO::L)) ?_ ?_
 .refine Δ.d9 mixed Γ ?_;refine GF.H6 (i:=0) rfl Γ (O.move rfl) ac ?_;refine GF.H6 (i:=1) rfl Γ (by first|exact O.nilCheck rfl|exact O.c7 rfl hA) ac ?_;refine GF.H6 (i:=2) rfl Γ (by first|exact O.fieldAddr rfl|exact O.c8 rfl (by first|omega|exact aP rfl)|exact O.f5 rfl) ac ?_;refine GF.Js (i:=3) rfl Γ (by first|exact O.d8 rfl rfl|exact O.d7 rfl aS|exact O.c9 rfl rfl|exact O.d9 rfl B|exact O.f9 rfl B rfl|exact O.f8 rfl B ac rfl) ac ?_;refine GF.H6 (i:=4) rfl Γ (O.move rfl) ac ?_;refine GF.H6 (i:=5) rfl Γ (O.move rfl) ac ?_;refine GF.H6 (i:=6) rfl Γ (O.z6 rfl rfl) ac ?_;refine GF.H6 (i:=7) rfl Γ (O.move rfl) ac ?_;refine GF.H6 (i:=8) rfl Γ (by first|exact O.nilCheck rfl|exact O.c7 rfl hA) ac ?_;refine GF.H6 (i:=9) rfl Γ (by first|exact O.fieldAddr rfl|exact O.c8 rfl (by first|omega|exact aP rfl)|exact O.f5 rfl) ac ?_;refine GF.Js (i:=10) rfl Γ (by first|exact O.d8 rfl rfl|exact O.d7 rfl aS|exact O.c9 rfl rfl|exact O.d9 rfl B|exact O.f9 rfl B rfl|exact O.f8 rfl B ac rfl) ac ?_;refine GF.H6 (i:=11) rfl Γ (O.p9 rfl) ac ?_;rw[n2];refine GF.a8 12 15 Γ ?_ ?_
  .refine GE.ef rfl (Ef.d8 (jj wi (W1.ia.length:Int) e1 B B) rfl) ac ?_;rintro _ _⟨q,rfl,⟨g1,g2⟩,rfl⟩;refine⟨(by intro pe hp;simp only[dL,aD,or_false] at hp;rcases hp with rfl|rfl<;>exact O.d8 rfl rfl),?_⟩;refine GF.kP [.ev 13,.ev 14,.ef 15,.ef 16] Γ rfl ?_;refine TJ ?_;intros;rename_i bx;exact⟨(bx,q),⟨g1,g2⟩,aA,by dsimp only;simp only[E6,G9];exact ag⟩
  .refine GE.ef rfl Ef.alloc ac ?_;rintro _ _⟨bx,rfl,rfl⟩;refine⟨(by intro pe hp;simp only[dL,aD,or_false] at hp;rcases hp with rfl|rfl<;>exact O.d8 rfl rfl),?_⟩;refine GF.kP [.ef 12,.ev 13,.ev 14,.ef 16] Γ rfl ?_;refine TJ ?_;intros;refine Ο.ca (jj wi (W1.ia.length:Int) e1 B B) ?_;rintro _ _⟨q,rfl,⟨g1,g2⟩,rfl⟩;refine TJ ?_;intros;exact⟨(bx,q),⟨g1,g2⟩,aA,by dsimp only;simp only[E6,G9];exact ag⟩
 rintro⟨bx,q⟩ ⟨g1,g2⟩;dsimp only at g1 g2 ⊢;have l4:q.toNat<W1.ia.length:=B;have h9:W1.ia[q.toNat]!∈W1.ia:=bA l4;have k1:W1.m.T.length=W1.ia.length:=ah _;have g5:W1.m.T[q.toNat]! = W1.ia[q.toNat]!.m:=dY (f:=λx:JQ=>x.m) l4;obtain⟨x,s1⟩:∃x,W1.ia[q.toNat]! = x:=⟨_,rfl⟩;rw[s1] at h9 g5 ⊢;have k0:x.m∈W1.m.T:=Kg h9;have b8:=b0.T _ k0;have n3:=c0.T _ k0;have y4:=b8.x.Ψ;have b7:=b8.x.to;obtain⟨k,hk⟩:∃k:Nat,x.m.to=(k:Int):=⟨x.m.to.toNat,B⟩;have f1:k<W1.ν.length:=B;obtain⟨s,e6⟩:∃s,W1.ν[k]! = s:=⟨_,rfl⟩;have f4:W1.m.nd x.m.to=(s.n.m,s.S):=E4.a8 B (by rw[hk];exact e6);have c3:=CE b0 b8 b7 B;have c2:M9 n (W1.m.send x.m.to (cS x.m.to n x.m W1.m.G (W1.m.nd x.m.to).1 (W1.m.nd x.m.to).2)):=c0.send b0.len b7 (RA.1.hm (c0.nd _ b7)) (RA.2 (c0.nd _ b7));have j2:(W1.ν.map (·.lb)).length=W1.ν.length:=ah _;have k5:(W1.ν.map (·.nb)).length=W1.ν.length:=ah _;have m3:x.m.to<(W1.ν.length:Int):=B;have d1:x.m.to.toNat=k:=B;have m0:s.d=x.m.to:=by have:=U k f1;rw[e6] at this;omega
 have p2:(W1.ν.map (·.lb))[x.m.to.toNat]! = s.lb:=by
  rw[<-e6,d1];exact dY (f:=λs:F5=>s.lb) f1
 have k2:(W1.ν.map (·.nb))[x.m.to.toNat]! = s.nb:=by
  rw[<-e6,d1];exact dY (f:=λs:F5=>s.nb) f1
 have h8:W1.m.G=W1.G:=rfl;have e3:=b0.at b7;rw[f4] at e3 c3 c2;rw[h8] at c3 c2;dsimp only at c3 c2;have h7:=ly (G:=W1.G) b7 e3.a b8 e3.bd B;have y0:=b8.x.am;have t2:=e3.bd;dsimp only at h7 t2;have m4:=λS2=>EE (S2:=S2) (d:=x.m.to) (Q:=n) (G:=W1.G) (x:=x.m) (N:=s.n.m) (S:=s.S) n3;simp only[E6,G9];simp only[aV];refine TJ ?_;intros;refine Ο.υ (A.at (Μ:=Ρ cV W1.ia) (A.d8 (f:=cV) h9)) ?_;refine Ο.υ (A.at (Μ:=ew (Il n) W1.ν) (lj f1 e6)) ?_;rw[m0];refine Ο.υ (Y:=cV x::a1 ((W1.ν.map (·.nb))[x.m.to.toNat]!) s.lb x.m.to n s.n (aN s.lb s.S::(ew (Il n) (W1.ν.eraseIdx k)::obj wb KB [ae W1.ad W1.ν.length W1.fe,ae W1.F4 W1.ν.length W1.IM,ae W1.cU W1.ia.length W1.fH,E W1.G,ae W1.F3 W1.B9.length W1.G3]::ε cI 1 W1.ad (W1.ν.map (·.lb))::ε cI 1 W1.F4 (W1.ν.map (·.nb))::G4 aV 3 hy W1.cU W1.fH W1.ia::Ρ cV W1.ia::Υ (a0 .i64) 1 kR W1.F3 W1.G3 W1.B9::obj bx hy [E x.m.Ψ,E x.m.to,ae x.M (IQ x.m.ct).length x.cap]::Υ dD 5 Jw I r os::Ρ I6 os::bO::L))) (by rw[k2];simp only[a1,cw];exact ag) ?_;refine Ο.ca (jN ((W1.ν.map (·.nb))[x.m.to.toNat]!) s.lb x.m.to n s.n s.S H9 x b8.ct (by have:=b8.x.kd;omega) e3.a.hin B W1.G) ?_;obtain⟨cq,hB⟩:∃cq,cS x.m.to n x.m W1.G s.n.m s.S=cq:=⟨_,rfl⟩;rw[hB] at c3 c2 h7 m4 ⊢;rintro _ _⟨x4,s6,ds,n',rfl,i4,r3,rfl⟩
 have y2:ds.length<=3300:=by
  have e:=congrArg List.length i4;have:=h7.len
  rw[ah] at e;omega
 simp only[a1,cw];refine TJ ?_;intros;refine Ο.ef (Ef.j7 (Β:=aV) (ys:=ds) rfl rfl rfl rfl rfl (λe _=>dG e) B B) ac ?_;rintro _ _⟨n6,g6,rfl,rfl⟩;refine TJ ?_;intros;rw[p2,k2];obtain⟨W2,e5⟩:∃W2:E4,W2={ W1 with ia:=W1.ia++ds,cU:=n6,fH:=g6 }:=⟨_,rfl⟩;have b4:W2.ν=W1.ν:=by rw[e5]
 have h5:k<W2.ν.length:=by rw[b4];exact f1
 have g3:W2.ν[k]! = s:=by rw[b4];exact e6
 refine R.υ (Y:=aN s.lb cq.2.2::MM wb n W2 k s n' (obj bx hy [E x.m.Ψ,E x.m.to,ae x.M (IQ x.m.ct).length x.cap]::Υ dD 5 Jw I r os::Ρ I6 os::bO::L)) ?_ ?_
 .rw[e5];refine(A.at (Μ:=Ρ cV ds) (A.refl _)).trans ?_;refine(A.at (Μ:=Ρ cV W1.ia) (A.refl _)).trans ?_;refine(A.c9 (f:=cV) ed).trans ?_;simp only[MM,a1,cw,G9,m0];exact ag
 refine R.ca (Ch s.lb cq.2.2 rfl) ?_;rintro _ _⟨b',y,rfl,Z,rfl⟩;obtain⟨SV,h3⟩:∃SV,cq.2.2.view (y.B8,y.hx) (y.A7,y.Ι)=SV:=⟨_,rfl⟩;have h0:=c3.at b7
 have d6:(W1.m.send x.m.to cq).nd x.m.to=(cq.2.1,cq.2.2):=by
  unfold D2.send D2.nd;dsimp only;have q:=rh (W:=W1.m) (i:=x.m.to.toNat) (j:=x.m.to.toNat) (x:=(cq.2.1,cq.2.2)) (by have:=b0.len;omega);rw[q,μ rfl]
 rw[d6] at h0;obtain⟨⟨hG,u3⟩,⟨s7,t4⟩,v1⟩:=h0.Ik B B;have i1:=h0.view (y.B8,y.hx) (y.A7,y.Ι);rw[h3] at i1;have n0:=m4 SV (λkd tk T=>by rw[<-h3];exact Fj _ _ _ _ _ _);rw[h3];obtain⟨s3,b9⟩:∃s3:F5,s3={ s with n:=n',S:=SV }:=⟨_,rfl⟩;obtain⟨W3,c4⟩:∃W3:E4,W3={ W2 with ν:=W2.ν.set k s3 }:=⟨_,rfl⟩;have b6:k<W3.ν.length:=by rw[c4];dsimp only;rw[bq];exact h5
 have a2:W3.ν[k]! = s3:=by
  rw[c4];dsimp only;rw[C5 (by rw[bq];exact h5),eK,μ rfl]
 have j3:W3.m={ W1.m.send x.m.to cq with IW:=(W1.m.send x.m.to cq).IW.set x.m.to.toNat (cq.2.1,SV) }:=by
  rw[c4,e5];unfold D2.send E4.m;dsimp only;rw[List.map_set,aL,i4,d1,List.set_set];congr 1;rw[b9,<-r3];rfl
 have e7:IX n (2*i+1) (8+48*i+24+24) (1200000000*i+600000000+600000000) (14*i+7) W3.m:=by
  rw[j3];exact c3.set b7 i1
 have o5:M9 n W3.m:=by
  rw[j3];refine⟨λj hj=>?_,c2.T⟩;have q:=rh (W:=W1.m.send x.m.to cq) (i:=x.m.to.toNat) (j:=j.toNat) (x:=(cq.2.1,SV)) (by have:=c3.len;omega);show L4 j ((W1.m.send x.m.to cq).IW.set x.m.to.toNat (cq.2.1,SV))[j.toNat]!.1;rw[q];split
  .rename_i z;have e:=c2.nd j hj;rw[show j=x.m.to by omega,d6] at e;rw[show j=x.m.to by omega];exact e
  .exact c2.nd j hj
 have p1:N2 W3:=λj hj=>by
  rw[c4] at hj ⊢;dsimp only at hj ⊢;rw[bq] at hj;rw[C5 (by rw[bq];exact hj),eK];split
  .rename_i z;rw[b9,<-z];show s.d=_;omega
  .rw[<-C5 hj,b4];exact U j (by rw[<-b4];exact hj)
 have j1:s3.lb=s.lb:=by rw[b9]
 have v3:s3.nb=s.nb:=by rw[b9]
 have e0:s3.d=x.m.to:=by rw[b9];exact m0
 have v2:s3.n.m=cq.2.1:=by rw[b9];exact r3
 have e9:s3.S=SV:=by rw[b9]
 refine R.υ (Y:=E6 wb n W3 (obj bx hy [E x.m.Ψ,E x.m.to,ae x.M (IQ x.m.ct).length x.cap]::Υ dD 5 Jw I r os::Ρ I6 os::JH b' cq.2.2.kQ y (bO::L))) ?_ ?_
 .refine A.trans (cq:=aN s.lb SV::MM wb n W2 k s n' (obj bx hy [E x.m.Ψ,E x.m.to,ae x.M (IQ x.m.ct).length x.cap]::Υ dD 5 Jw I r os::Ρ I6 os::JH b' cq.2.2.kQ y (bO::L))) ?_ ?_
  .simp only[MM,a1,cw,G9,JH];exact ag
  .rw[c4,b9];exact Cs h5 g3 n' SV
 have m2:W3.G=W1.G:=by rw[c4,e5]
 have x2:x∈W3.ia:=by
  rw[c4,e5];exact dQ _ h9
 have p4:(W3.ν.length:Int)=n:=(E4.c8 e7).1;have e2:=e7.at b7;have f6:W3.m.nd x.m.to=(s3.n.m,s3.S):=E4.a8 B (by rw[d1];exact a2);rw[f6] at e2;have l1:(W3.ν.map (·.nb)).length=W3.ν.length:=ah _
 have a9 : (W3.ν.map (·.nb))[x.m.to.toNat]! = s3.nb:=by
  rw[<-a2,d1];exact dY (f:=λs:F5=>s.nb) b6
 have g4:x.m.to<(W3.ν.length:Int):=B;have i8:W3.B9.length<=2*i+1:=e7.il;clear b0 c3 c0 c2 U e3 h7 h0 i1 d6 j3 c4 b9 e5 b4 h5 g3 i4 f4 m4 m3 p2 k2 j2 k5 g5 s1 k0 l4 n2 e1;have b1:=e2.a.QB b3.2;have i3:s3.n.m.δ.length=s3.n.δ.length:=ah _;have l3:s3.n.m.Ζ.length=s3.n.Ζ.length:=ah _;obtain⟨op,r5⟩:∃op,jV s3.n.m=op:=⟨_,rfl⟩;simp only[E6,G9];refine TJ ?_;intros;rw[a9];refine Ο.υ (Y:=E6 wb n W3 (obj bx hy [E x.m.Ψ,E x.m.to,ae x.M (IQ x.m.ct).length x.cap]::Υ dD 5 Jw I r os::Ρ I6 os::JH b' cq.2.2.kQ y (bO::L))) (by simp only[E6,G9];exact ag) ?_;refine Ο.υ (mO b6 a2) ?_;refine Ο.ca (oF s3.nb s3.lb s3.d n s3.n (by dsimp only at b1;omega) (by dsimp only at b1;omega) e2.a.hin.Rl) ?_;rw[r5];rintro _ _⟨b5,a3,rfl,rfl⟩;repeat first|refine Δ.sn 18 ?_|refine cR ?_|intro _|refine be ?_
 refine Δ.υ (Y:=Υ (a0 .i64) 1 kR b5 a3 op::E6 wb n W3 (obj bx hy [E x.m.Ψ,E x.m.to,ae x.M (IQ x.m.ct).length x.cap]::Υ dD 5 Jw I r os::Ρ I6 os::JH b' cq.2.2.kQ y (bO::L))) (A.c7 (mP b6 a2)) ?_;simp only[E6,G9];refine TJ ?_;intros;refine Δ.loop (α:=Nat×OA×Nat) (λg=>g.1<=W3.B9.length) (λg=>[(3,E a4),(9,E n),(10,al wb),(12,ae I os.length r),(13,E (i:Int)),(14,al bx),(15,.pointer (some ⟨s.lb,0,none⟩)),(16,.pointer (some ⟨b',0,none⟩)),(17,ae b5 op.length a3),(18,ae g.2.1 ((W3.B9.take g.1).map (fj s3.n.m)).length g.2.2),(19,E (g.1:Int))]) (λg=>Υ (a0 .i64) 1 kR g.2.1 g.2.2 ((W3.B9.take g.1).map (fj s3.n.m))::Υ (a0 .i64) 1 kR b5 a3 op::E6 wb n W3 (obj bx hy [E x.m.Ψ,E x.m.to,ae x.M (IQ x.m.ct).length x.cap]::Υ dD 5 Jw I r os::Ρ I6 os::JH b' cq.2.2.kQ y (bO::L))) (λg=>W3.B9.length - g.1) (0,none,0) (aC _) aA ?_ ?_
 .dsimp only;refine(A.c8 (a0 .i64) 1 kR).trans ?_;simp only[E6,G9,aU,aY];exact ag
 rintro⟨e,B8,IT⟩ he;dsimp only at he ⊢;by_cases h4:e<W3.B9.length
 case pos =>
  have i7:(e:Int)<(W3.B9.length:Int):=B;have i6:(e:Int).toNat=e:=B;simp only[E6,G9];refine TJ ?_;intros;rw[a9];refine Ο.υ (Y:=E6 wb n W3 (Υ (a0 .i64) 1 kR B8 IT ((W3.B9.take e).map (fj s3.n.m))::Υ (a0 .i64) 1 kR b5 a3 op::obj bx hy [E x.m.Ψ,E x.m.to,ae x.M (IQ x.m.ct).length x.cap]::Υ dD 5 Jw I r os::Ρ I6 os::JH b' cq.2.2.kQ y (bO::L))) (by simp only[E6,G9];exact ag) ?_;refine Ο.υ (mO b6 a2) ?_;refine Ο.cr (ko s3.nb s3.lb s3.d n s3.n W3.B9[(e:Int).toNat]!) ?_;refine TJ ?_;intros;rename_i bt;refine Ο.υ (A.c7 (mP b6 a2)) ?_;have z0:((W3.B9.take e).map (fj s3.n.m)).length=e:=by rw[ah,aK];omega
  have h8:(W3.B9.take (e+1)).map (fj s3.n.m)=(W3.B9.take e).map (fj s3.n.m)++[fj s3.n.m W3.B9[(e:Int).toNat]!]:=by
   rw[av h4,aL,List.map_singleton,i6,C5 h4]
  simp only[E6,G9];refine Ο.ef (Ef.a8 (Β:=a0 .i64) (e:=fj s3.n.m W3.B9[(e:Int).toNat]!) rfl rfl rfl rfl rfl aS (ga _ _) B B) ac ?_;rintro _ _⟨o1,g7,rfl,rfl⟩;refine TJ ?_;intros;refine⟨(e+1,o1,g7),by dsimp only;omega,by dsimp only;omega,?_,?_⟩
  .dsimp only;rw[h8,bC e];exact aA
  .dsimp only;rw[h8];exact ag
 obtain rfl:e=W3.B9.length:=B;rw[cn];obtain⟨us,n1⟩:∃us,W3.B9.map (fj s3.n.m)=us:=⟨_,rfl⟩;rw[n1];simp only[E6,G9];refine TJ ?_;intros;rw[a9];have hR:(cS x.m.to n x.m W3.G s3.n.m s3.S).2=(s3.n.m,s3.S):=by rw[m2,v2,e9];exact n0
 refine Ο.υ (Y:=cV x::a1 s3.nb s3.lb x.m.to n s3.n (aN s3.lb s3.S::(ew (Il n) (W3.ν.eraseIdx k)::obj wb KB (G9 W3)::ε cI 1 W3.ad (W3.ν.map (·.lb))::ε cI 1 W3.F4 (W3.ν.map (·.nb))::G4 aV 3 hy W3.cU W3.fH W3.ia::Ρ cV W3.ia::Υ (a0 .i64) 1 kR W3.F3 W3.G3 W3.B9::Υ (a0 .i64) 1 kR B8 IT us::Υ (a0 .i64) 1 kR b5 a3 op::obj bx hy [E x.m.Ψ,E x.m.to,ae x.M (IQ x.m.ct).length x.cap]::Υ dD 5 Jw I r os::Ρ I6 os::JH b' cq.2.2.kQ y (bO::L)))) ?_ ?_
 .refine(A.at (Μ:=Ρ cV W3.ia) (A.d8 (f:=cV) x2)).trans ?_;refine(A.at (Μ:=ew (Il n) W3.ν) (lj b6 a2)).trans ?_;rw[e0];simp only[a1,cw,G9];exact ag
 refine Ο.ca (jN s3.nb s3.lb x.m.to n s3.n s3.S H9 x b8.ct (by have:=b8.x.kd;omega) e2.a.hin (by have:=e2.bd;dsimp only at this;omega) W3.G) ?_;obtain⟨B4,o4⟩:∃B4,cS x.m.to n x.m W3.G s3.n.m s3.S=B4:=⟨_,rfl⟩;rw[o4] at hR ⊢;rintro _ _⟨s2,o3,x5,n4,rfl,i5,r4,rfl⟩;have f3 : n4.m=s3.n.m:=by rw[r4,hR]
 have e8 : B4.2.2=s3.S:=by rw[hR]
 rw[e8];clear hR o4 i5 r4 e8;obtain⟨s4,d4⟩:∃s4:F5,s4={ s3 with n:=n4,S:=s3.S }:=⟨_,rfl⟩;obtain⟨W4,c5⟩:∃W4:E4,W4={ W3 with ν:=W3.ν.set k s4 }:=⟨_,rfl⟩
 have r1:W4.m=W3.m:=by
  rw[c5];unfold E4.m;dsimp only;rw[gQ F5.m a2 s4 (by rw[d4];show(n4.m,s3.S)=(s3.n.m,s3.S);rw[f3])]
 have d0:k<W4.ν.length:=by rw[c5];dsimp only;rw[bq];exact b6
 have a5:W4.ν[k]! = s4:=by
  rw[c5];dsimp only;rw[C5 (by rw[bq];exact b6),eK,μ rfl]
 have t1:N2 W4:=λj hj=>by
  have e:W4.ν.map F5.d=W3.ν.map F5.d:=by
   rw[c5];exact gQ F5.d a2 s4 (by rw[d4])
  have hl:W4.ν.length=W3.ν.length:=by rw[c5];dsimp only;rw[bq]
  have q:(W4.ν.map F5.d)[j]! = (W3.ν.map F5.d)[j]!:=by rw[e]
  rw[dY (f:=F5.d) hj,dY (f:=F5.d) B] at q;rw[q];exact p1 j B
 have f2:s4.lb=s.lb:=by rw[d4];exact j1
 have f0:s4.S=SV:=by rw[d4];exact e9
 have f7:s4.n.m=s3.n.m:=by rw[d4];exact f3
 have w3:s4.d=x.m.to:=by rw[d4];exact e0
 have a7:W4.B9=W3.B9:=by rw[c5]
 have J:=e7;have p0:=o5;rw[<-r1] at J p0;repeat first|refine Δ.sm 24 ?_|refine cR ?_|intro _|refine be ?_
 refine Δ.υ (Y:=E6 wb n W4 (Υ (a0 .i64) 1 kR B8 IT us::Υ (a0 .i64) 1 kR b5 a3 op::obj bx hy [E x.m.Ψ,E x.m.to,ae x.M (IQ x.m.ct).length x.cap]::Υ dD 5 Jw I r os::Ρ I6 os::JH b' cq.2.2.kQ y (bO::L))) ?_ ?_
 .refine A.trans (cq:=aN s3.lb s3.S::MM wb n W3 k s3 n4 (Υ (a0 .i64) 1 kR B8 IT us::Υ (a0 .i64) 1 kR b5 a3 op::obj bx hy [E x.m.Ψ,E x.m.to,ae x.M (IQ x.m.ct).length x.cap]::Υ dD 5 Jw I r os::Ρ I6 os::JH b' cq.2.2.kQ y (bO::L))) ?_ ?_
  .rw[<-e0];simp only[MM,a1,cw,G9];exact ag
  .rw[c5,d4];exact Cs b6 a2 n4 s3.S
 clear e7 o5 r1 p1 b6 a2 c5 l1 a9 g4 e2 f6 i3 l3 b1;have q0:(W4.ν.length:Int)=n:=(E4.c8 J).1;have i2:=J.at b7;have k4:W4.m.nd x.m.to=(s4.n.m,s4.S):=E4.a8 B (by rw[d1];exact a5);rw[k4] at i2;have v4:(W4.ν.map (·.nb)).length=W4.ν.length:=ah _
 have d3:(W4.ν.map (·.nb))[x.m.to.toNat]! = s4.nb:=by
  rw[<-a5,d1];exact dY (f:=λs:F5=>s.nb) d0
 have s0:x.m.to<(W4.ν.length:Int):=B;have g0:jV s4.n.m=op:=by rw[f7];exact r5
 have c6:=λξ:LH=>wg (L:=ξ) s.lb b' cq.2.2 y (gm cq.2.2) Z hG u3 s7 t4 v1;simp only[h3] at c6;have b2:=i2.a.QB b3.2;have t3:s4.n.m.δ.length=s4.n.δ.length:=ah _;have w1:s4.n.m.Ζ.length=s4.n.Ζ.length:=ah _;simp only[E6,G9];refine TJ ?_;intros;refine Ο.υ (Y:=aN s.lb SV::JH b' cq.2.2.kQ y (MM wb n W4 k s4 s4.n (Υ (a0 .i64) 1 kR B8 IT us::Υ (a0 .i64) 1 kR b5 a3 op::obj bx hy [E x.m.Ψ,E x.m.to,ae x.M (IQ x.m.ct).length x.cap]::Υ dD 5 Jw I r os::Ρ I6 os::bO::L))) ?_ ?_
 .refine A.trans (cq:=E6 wb n W4 (Υ (a0 .i64) 1 kR B8 IT us::Υ (a0 .i64) 1 kR b5 a3 op::obj bx hy [E x.m.Ψ,E x.m.to,ae x.M (IQ x.m.ct).length x.cap]::Υ dD 5 Jw I r os::Ρ I6 os::JH b' cq.2.2.kQ y (bO::L))) (by simp only[E6,G9];exact ag) ?_;refine(FT d0 a5).trans ?_;rw[f2,f0];simp only[MM,a1,cw,G9,JH];exact ag
 refine Ο.cr (c6 _) ?_;simp only[JH,MM,a1,cw,G9];refine TJ ?_;intros;rw[d3];refine Ο.υ (Y:=a1 s4.nb s4.lb s4.d n s4.n (KO wb n W4 k s4 (Υ (a0 .i64) 1 kR B8 IT us::Υ (a0 .i64) 1 kR b5 a3 op::obj bx hy [E x.m.Ψ,E x.m.to,ae x.M (IQ x.m.ct).length x.cap]::Υ dD 5 Jw I r os::Ρ I6 os::bO::L))) (by rw[<-f2,<-f0];simp only[a1,cw,KO,G9];exact ag) ?_;refine Ο.ca (oF s4.nb s4.lb s4.d n s4.n (by dsimp only at b2;omega) (by dsimp only at b2;omega) i2.a.hin.Rl) ?_;rw[g0];rintro _ _⟨x3,o2,rfl,rfl⟩
 have l2:op.length<=9223372036854775807:=by
  rw[<-g0];have q1:(jV s4.n.m).length<=(fy s4.n.m).length:=dN _ _;have q2:=ll s4.n.m;dsimp only at b2;omega
 simp only[a1,cw,KO,G9];refine TJ ?_;intros;refine Ο.cr (sb x3 b5 op.length op.length o2 a3 op op rfl rfl l2) ?_;rw[bI rfl];repeat first|refine Δ.sn 26 ?_|refine cR ?_|intro _|refine be ?_
 refine Δ.υ (Y:=E6 wb n W4 (Υ (a0 .i64) 1 kR B8 IT us::obj bx hy [E x.m.Ψ,E x.m.to,ae x.M (IQ x.m.ct).length x.cap]::Υ dD 5 Jw I r os::Ρ I6 os::bO::L)) ?_ ?_
 .refine A.trans (cq:=a1 s4.nb s4.lb s4.d n s4.n (KO wb n W4 k s4 (Υ (a0 .i64) 1 kR B8 IT us::obj bx hy [E x.m.Ψ,E x.m.to,ae x.M (IQ x.m.ct).length x.cap]::Υ dD 5 Jw I r os::Ρ I6 os::bO::L))) (by simp only[a1,cw,KO,G9];exact ag) ?_;exact mP d0 a5
 have u2:W4.B9.length<=2*i+1:=by rw[a7];exact i8
 have x1:us.length=W4.B9.length:=by rw[<-n1,ah,a7]
 simp only[E6,G9];refine TJ ?_;intros;refine Δ.loop (α:=Nat) (λe=>e<=W4.B9.length) (λe=>[(3,E a4),(9,E n),(10,al wb),(12,ae I os.length r),(13,E (i:Int)),(14,al bx),(18,ae B8 us.length IT),(20,E (e:Int))]) (λ_=>E6 wb n W4 (Υ (a0 .i64) 1 kR B8 IT us::obj bx hy [E x.m.Ψ,E x.m.to,ae x.M (IQ x.m.ct).length x.cap]::Υ dD 5 Jw I r os::Ρ I6 os::bO::L)) (λe=>W4.B9.length - e) 0 (aC _) aA (by simp only[E6,G9];exact ag) ?_;rintro e he;by_cases h4:e<W4.B9.length
 case pos =>
  have i7:(e:Int)<(W4.B9.length:Int):=B;have y3:(e:Int)<(us.length:Int):=B;have i6:(e:Int).toNat=e:=B
  have x0:us[(e:Int).toNat]! = fj s4.n.m W4.B9[(e:Int).toNat]!:=by
   rw[i6,f7,<-n1,a7];exact dY (by rw[<-a7];exact h4)
  simp only[E6,G9];refine TJ ?_;intros;rw[d3];refine Ο.υ (Y:=E6 wb n W4 (Υ (a0 .i64) 1 kR B8 IT us::obj bx hy [E x.m.Ψ,E x.m.to,ae x.M (IQ x.m.ct).length x.cap]::Υ dD 5 Jw I r os::Ρ I6 os::bO::L)) (by simp only[E6,G9];exact ag) ?_;refine Ο.υ (mO d0 a5) ?_;refine Ο.cr (ko s4.nb s4.lb s4.d n s4.n W4.B9[(e:Int).toNat]!) ?_;rw[<-x0];simp only[a1,cw,KO,G9];refine TJ ?_;intros;refine⟨e+1,B,B,?_,A.trans (cq:=a1 s4.nb s4.lb s4.d n s4.n (KO wb n W4 k s4 (Υ (a0 .i64) 1 kR B8 IT us::obj bx hy [E x.m.Ψ,E x.m.to,ae x.M (IQ x.m.ct).length x.cap]::Υ dD 5 Jw I r os::Ρ I6 os::bO::L))) (by simp only[a1,cw,KO,G9];exact ag) (mP d0 a5)⟩;rw[bC e];exact aA
 obtain rfl:e=W4.B9.length:=B;simp only[E6,G9];refine TJ ?_;intros;obtain⟨kf,y5⟩:∃kf:Nat,x.m.Ψ=(kf:Int):=⟨x.m.Ψ.toNat,B⟩;have i9:kf<W4.ν.length:=B;obtain⟨s5,d5⟩:∃s,W4.ν[kf]! = s:=⟨_,rfl⟩
 have k3:(W4.ν.map (·.nb))[x.m.Ψ.toNat]! = s5.nb:=by
  rw[<-d5,show x.m.Ψ.toNat=kf by omega];exact dY (f:=λs:F5=>s.nb) i9
 have t5:x.m.Ψ<(W4.ν.length:Int):=B;rw[d3];refine Ο.υ (Y:=E6 wb n W4 (Υ (a0 .i64) 1 kR B8 IT us::obj bx hy [E x.m.Ψ,E x.m.to,ae none 0 0]::Υ dD 5 Jw I r os::Ρ I6 os::bO::L)) (by simp only[E6,G9];exact ag) ?_;refine Ο.υ (mO d0 a5) ?_;refine Ο.cr (lW s4.nb s4.lb s4.d n s4.n x.m.Ψ x.m.to W4.G) ?_;simp only[a1,cw,KO,G9];refine TJ ?_;intros;rw[k3];refine Ο.υ (Y:=a1 s5.nb s5.lb s5.d n s5.n (KO wb n W4 kf s5 (Υ (a0 .i64) 1 kR B8 IT us::obj bx hy [E x.m.Ψ,E x.m.to,ae none 0 0]::Υ dD 5 Jw I r os::Ρ I6 os::bO::L))) (A.trans (cq:=a1 s4.nb s4.lb s4.d n s4.n (KO wb n W4 k s4 (Υ (a0 .i64) 1 kR B8 IT us::obj bx hy [E x.m.Ψ,E x.m.to,ae none 0 0]::Υ dD 5 Jw I r os::Ρ I6 os::bO::L))) (by simp only[a1,cw,KO,G9];exact ag) ((mP d0 a5).trans (mO i9 d5))) ?_;refine Ο.cr (lW s5.nb s5.lb s5.d n s5.n x.m.Ψ x.m.to W4.G) ?_;refine TJ ?_;intros;refine⟨(i+1,W4),⟨by dsimp only;omega,⟨J.mono iG iG iG iG,p0⟩,t1⟩,by dsimp only;omega,?_,?_⟩
 .dsimp only;rw[bC i];exact aA
 .dsimp only;refine(mP i9 d5).trans ?_;simp only[E6,G9];exact ag
