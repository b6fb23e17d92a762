/- Exchanges: EscrowTogether. -/
import Derived.Test.YtlgpgjdggilkgaaGreatDoorEtbr
set_option linter.all false
set_option maxHeartbeats 16000000
namespace Go.Proofs.YtlgpgjdggilkgaaGreatDoor
open Go.V
def Qm(G4:OA)(M3:Nat)(bs:List Nat)(M:List (Nat×List Int))(a3:OA)(B:Nat)(ds:List Pf)(a2:OA)(zs:List Sc)(os:List Pf)(L:Η):Η:=Ω iy 1 Rc G4 M3 bs::ey O1 M::Ω jr 1 Sv a3 B ds::ξ fh 1 a2 zs::Ψ NV zs::Ψ OR os::cc::L
attribute [local irreducible] Α GO GP δ ms GF GE Ev Ef C0 F CB GB V.Enters bJ L9
abbrev Eu:=Zd [.ev 13,.ef 14,.ev 15]
abbrev Et:=Zd [.ev 13,.ef 14,.ev 15]
abbrev Es:=Ze [.ev 17,.ev 18,.ev 19,.ev 20,.ev 21,.ev 22,.ev 23,.ev 24,.ev 25,.ev 26,.ev 27,.ef 28]
abbrev Er:=Ze [.ev 17,.ev 18,.ev 19,.ev 20,.ev 21,.ev 22,.ev 23,.ev 24,.ev 25,.ev 26,.ev 27,.ef 28]
abbrev Eq:=YZ [.ev 4,.ev 6,.ev 7,.ev 8,.ev 9,.ev 10,.ev 11,.ev 12,.ev 13,.ev 14,.ev 15,.ef 5,.ev 16]
def aR{φ ψ:Prop}(k:ψ)(h:Hid ψ->φ:=by intro k;(with_reducible apply Α.a8);first|refine Α.dr 323 33 Eu (Hid.out k)|refine Α.dr 323 39 Et (Hid.out k)|refine Α.dr 323 50 Es (Hid.out k)|refine Α.dr 323 51 Er (Hid.out k)|refine Α.dr 323 63 Eq (Hid.out k)):φ:=h ⟨k⟩
def XY{φ ψ:Prop}(k:ψ)(h:Hid ψ->φ:=by intro k;(repeat (first|refine ab ?_|intro B6|refine aR ?_));(repeat revert B6);exact Hid.out k):φ:=h ⟨k⟩
def qn{L:Η}(ad:OA)(m c:Nat)(I:List Int)[hrd:F2 L ad Int (dJ .i64) 1 I](hm:m=I.length)(bf:m<=9223372036854775807)(hc:m<=c)(O:∀x∈I,vi x)(h7:OA)(m1 c1:Nat)(ys:List Int)[y5:F2 L h7 Int (dJ .i64) 1 ys](g5:m1=ys.length)(k5:m1<=9223372036854775807)(n6:m1<=c1)(Y:∀x∈ys,vi x)(b8:Int)(hs:vi b8) :
  Τ Θ 4 #[ah ad m c,ah h7 m1 c1,J b8] (cc::L) (F3 (.bool true) L):=by
 subst hm g5;refine Τ.bd ?_;refine XY ?_;intros;refine GO.ca (mR b8 2 hs ae ae) ?_;rintro _ _⟨p,rfl,⟨i1,y2⟩,rfl⟩;refine XY ?_;intros;obtain⟨n,hn⟩:∃n:Int,2+p=n:=⟨_,rfl⟩;rw[hn];have bi:2<=n/\n<=3:=D;have d1:1<=n/\n<=12:=D;refine XY ?_;intros;refine GO.ca (ua n d1 ad I.length c I rfl hc O) ?_;rintro _ _⟨wb,W0,rfl,f2,rfl⟩;have m4:=f2.wd d1;have s8:=f2.sc ⟨D,D⟩;have t5:Tz W0:=λi hi=>(f2.sd i hi).d;have p2:(W0.aa.length:Int)=n:=f2.len;clear hn i1 y2 hs
 have g2:∀k:Nat,k<W0.aa.length->Sk (dg W0.aa[k]!.S) W0.aa[k]!.S/\dg W0.aa[k]!.S<=8/\rS W0.aa[k]!.S.ν W0.aa[k]!.S.Κ/\W0.aa[k]!.S.Κ.length<=100000/\∀a x,0<=aY (W0.aa[k]!.S.ν a x)/\aY (W0.aa[k]!.S.ν a x)<=1099511627776:=λk hk=>by
  have l2:=(f2.sd k hk).sp;have v9:=l2.k;obtain⟨r1,r2,r3,r4⟩:=Oc.seen D l2.K1 D;obtain⟨_,_,i3⟩:=l2.K1.rep.all D D;have hf:=r1.Κ;exact⟨r1,v9,r2,D,r4⟩
 simp only[B9,K3];refine XY ?_;intros;refine Α.loop (α:=Nat×OA×Nat×List Sc) (λg=>(g.1:Int)<=n/\g.2.2.2.length=g.1/\∀k,k<g.1->TT (Vo W0.aa[k]!.S) g.2.2.2[k]!.hs/\g.2.2.2[k]!.hs.length<=4194304) (λg=>[(1,ah h7 ys.length c1),(7,J n),(8,av wb),(10,ah g.2.1 g.2.2.2.length g.2.2.1),(11,J (g.1:Int))]) (λg=>Ω fh 1 UA g.2.1 g.2.2.1 g.2.2.2::Ψ NV g.2.2.2::B9 wb n W0 (cc::L)) (λg=>n.toNat - g.1) (0,none,0,[]) ⟨by dsimp only;omega,rfl,λk hk=>hD hk (fN _)⟩ aD ?_ ?_
 .dsimp only;refine(F.a8 NV).trans ((F.c8 fh 1 UA).trans ?_);simp only[B9,K3];exact ak
 rintro⟨i,a5,a7,zs⟩ ⟨hi,m0,hz⟩;dsimp only at hi m0 hz ⊢;by_cases bb:(i:Int)<n
 case pos =>
  have b4:i<W0.aa.length:=D;obtain⟨s,a9⟩:∃s,W0.aa[i]! = s:=⟨_,rfl⟩;obtain⟨hG,t3,m3,m2,_⟩:=g2 i b4;rw[a9] at hG t3 m3 m2;have w1:(i:Int)<(W0.aa.length:Int):=D;have adn:(W0.aa.map (·.lb)).length=W0.aa.length:=al _
  have x0:(W0.aa.map (·.lb))[(i:Int).toNat]! = s.lb:=by
   rw[<-a9,show(i:Int).toNat=i by omega];exact eJ (f:=λs:K2=>s.lb) b4
  simp only[B9,K3];refine XY ?_;intros;rw[x0];refine GO.cL (Γ:=B9 wb n W0 (Ω fh 1 UA a5 a7 zs::Ψ NV zs::cc::L)) (by simp only[B9,K3];exact ak) ?_;refine GO.cL (Kd b4 a9) ?_;refine GO.ca (zy s.lb s.S (dg s.S) hG D m3 m2) ?_;rintro _ _⟨c6,b5,d3,rfl,⟨hH,i5⟩,rfl⟩;refine GO.cL (Γ:=ξ kb 3 c6 d3::B9 wb n W0 (Ω fh 1 UA a5 a7 zs::Ψ NV zs::cc::L)) (F.N9.trans (F.c7 (Ke b4 a9))) ?_;simp only[B9,K3];refine XY ?_;intros;refine GO.ef (Ef.a8 (Ε:=fh) (e:=(⟨c6,b5,d3⟩:Sc)) rfl rfl rfl rfl rfl bh (Hl _) D D) ae ?_;rintro _ _⟨e1,c3,rfl,rfl⟩;refine XY ?_;intros;refine⟨(i+1,e1,c3,zs++[(⟨c6,b5,d3⟩:Sc)]),⟨by dsimp only;omega,by dsimp only;rw[ay,aX,m0],λk hk=>?_⟩,by dsimp only;omega,?_,?_⟩
  .dsimp only at hk ⊢;by_cases w2:k<i
   .rw[D7 (show k<(zs++[(⟨c6,b5,d3⟩:Sc)]).length by rw[ay];omega),List.getElem_append_left D,<-D7 D];exact hz k w2
   .have e:k=i:=D;rw[e,a9,D7 (show i<(zs++[(⟨c6,b5,d3⟩:Sc)]).length by rw[ay,aX];omega),dT D];simp only[m0,Nat.sub_self,List.getElem_singleton];exact⟨hH,i5⟩
  .dsimp only;rw[bC i];exact aD
  .dsimp only;refine(F.at (Ο:=Ψ NV zs) (F.refl _)).trans ?_;refine F.trans (fG:=Ψ NV zs::Ψ NV [(⟨c6,b5,d3⟩:Sc)]::Ω fh 1 UA e1 c3 (zs++[(⟨c6,b5,d3⟩:Sc)])::B9 wb n W0 (cc::L)) ?_ ((F.c9 (f:=NV) (λz=>cQ _ _ _ _)).trans ak);refine F.trans (fG:=NV ⟨c6,b5,d3⟩::Ψ NV zs::Ω fh 1 UA e1 c3 (zs++[(⟨c6,b5,d3⟩:Sc)])::B9 wb n W0 (cc::L)) (by simp only[B9,K3];exact ak) ?_;refine(F.d7 (f:=NV) (λz=>cQ _ _ _ _)).trans ?_;exact ak
 have hin:(i:Int)=n:=D;have bv:zs.length=W0.aa.length:=D;refine Α.cL (F.at (Ο:=Ω fh 1 UA a5 a7 zs) F.N9) ?_;simp only[B9,K3];refine XY ?_;intros;refine GO.ca (AI n d1 h7 c1 ys Y k5 24 ae) ?_;rintro _ _⟨h6,c4,os,rfl,⟨bk,ho⟩,rfl⟩;have t4:Sd n (VG W0.m) 0 os [] W0:=⟨m4,⟨0,0,s8,by have:=m4.E;omega,an _⟩,an _,λo h=>hD h aG,t5⟩;refine XY ?_;intros;refine Α.loop (α:=Nat×G1×OA×Nat×List Pf) (λg=>g.1<=os.length/\Sd n (VG W0.m) g.1 os g.2.2.2.2 g.2.1) (λg=>[(7,J n),(8,av wb),(10,ah a5 zs.length a7),(12,ah g.2.2.1 g.2.2.2.2.length g.2.2.2.1),(13,ah h6 os.length c4),(14,J (g.1:Int))]) (λg=>Ω jr 1 Sv g.2.2.1 g.2.2.2.1 g.2.2.2.2::ξ fh 1 a5 zs::Ψ NV zs::Ω iz 5 RE h6 c4 os::Ψ OR os::B9 wb n g.2.1 (cc::L)) (λg=>os.length - g.1) (0,W0,none,0,[]) ⟨aC _,t4⟩ aD ?_ ?_
 .dsimp only;refine(F.c8 jr 1 Sv).trans ?_;simp only[B9,K3];exact ak
 rintro⟨j,W,b0,B,ds⟩ ⟨hj,hP⟩;dsimp only at hj hP ⊢;by_cases x2:j<os.length
 case pos =>
  have o4:(j:Int).toNat=j:=D;have e3:os[(j:Int).toNat]!∈os:=bA D;have s5:=ho _ e3;have v4:(j:Int)<(os.length:Int):=D;by_cases v5:os[(j:Int).toNat]!.Δ=5
  .refine XY ?_;intros;refine⟨(j+1,W,b0,B,ds),⟨by dsimp only;omega,hP.skip⟩,by dsimp only;omega,?_,?_⟩
   .dsimp only;rw[bC j];exact aD
   .dsimp only;exact ak
  .refine XY ?_;intros;refine GO.cL (Γ:=OR os[(j:Int).toNat]!::B9 wb n W (Ω jr 1 Sv b0 B ds::ξ fh 1 a5 zs::Ψ NV zs::Ω iz 5 RE h6 c4 os::Ψ OR os::cc::L)) ((F.at (Ο:=Ψ OR os) (F.d8 (f:=OR) e3)).trans (by simp only[B9,K3];exact ak)) ?_;refine GO.ca (Ln wb n W os[(j:Int).toNat]! hP.wd s5 hP.ok D D D D) ?_;have g6:=λW'=>hP.next (W':=W') s5 e3 v5 D;generalize QM n os[(j:Int).toNat]! W.m=H8 at *;rintro _ _⟨W',rfl,⟨x3,l1⟩,rfl⟩;have g6:=g6 W' x3 (l1.d hP.ok);simp only[B9,K3];have u8:=hP.le;by_cases k0:os[(j:Int).toNat]!.Δ=0
   case neg =>
    rcases g6 with⟨q,_⟩|⟨_,f1⟩
    .exact hD q k0
    refine XY ?_;intros;refine⟨(j+1,W',b0,B,ds),⟨by dsimp only;omega,f1⟩,by dsimp only;omega,?_,?_⟩
    .dsimp only;rw[bC j];exact aD
    .dsimp only;exact ak
   by_cases e0:H8.1.2=0
   case neg =>
    rcases g6 with⟨_,q,_⟩|⟨_,f1⟩
    .exact hD q e0
    refine XY ?_;intros;refine⟨(j+1,W',b0,B,ds),⟨by dsimp only;omega,f1⟩,by dsimp only;omega,?_,?_⟩
    .dsimp only;rw[bC j];exact aD
    .dsimp only;exact ak
   rcases g6 with⟨_,_,f1⟩|⟨q,_⟩
   case inr=>exact hD ⟨k0,e0⟩ q
   refine XY ?_;intros;refine GO.ef (Ef.a8 (Ε:=jr) (e:=os[(j:Int).toNat]!) rfl rfl rfl rfl rfl bh (Hm _) D D) ae ?_;rintro _ _⟨i4,e8,rfl,rfl⟩;refine XY ?_;intros;refine⟨(j+1,W',i4,e8,ds++[os[(j:Int).toNat]!]),⟨by dsimp only;omega,f1⟩,by dsimp only;omega,?_,?_⟩
   .dsimp only;rw[bC j];exact aD
   .dsimp only;exact ak
 have f6:=hP.gR;have u8:=hP.le;obtain⟨A9,p0,i9,hU,i1⟩:=hP.sc;have r6:W.m.gR.length=ds.length:=f6;have i2:=hP.wd.E;have h9:F8 n j (8+24*j) (600000000*j) (7*j+10) W.m:=hP.wd.mono (an _) (an _) (an _) D;obtain⟨s1,s2,s3,s4⟩:=i9.safe h9 D D D D;have b7:=i9.settled h9 D D (by rw[r6];exact aO i1 (Nat.add_le_add_left (Nat.mul_le_mul_left _ D) _)) D D D;simp only[B9,K3];refine XY ?_;intros;refine GO.cL (Γ:=B9 wb n W (Ω jr 1 Sv b0 B ds::ξ fh 1 a5 zs::Ψ NV zs::Ω iz 5 RE h6 c4 os::Ψ OR os::cc::L)) (by simp only[B9,K3];exact ak) ?_;have d5:=λε:Η=>ou (L:=ε) wb n W hP.ok 4 ae (ε:=600000000*j+7300000000*4) (ac:=7*j+10) D (h9.mono D D D (an _)) s1;refine GO.ca (d5 _) ?_;rintro _ _⟨W1,rfl,⟨g5,g7⟩,rfl⟩;have t9:=g7.d hP.ok
 have z1:W1.E=W.m.E:=by
  have e:W1.m.E=W1.E:=rfl;rw[<-e,g5,s2]
 have bn:0<=W1.E/\W1.E<=1000:=D;simp only[B9,K3];refine XY ?_;intros
 have r5:({ W1 with E:=W1.E+10 }:G1).m={ cP n W.m 4 with E:=W.m.E+10 }:=by
  rw[<-g5,<-z1];rfl
 rw[<-r5] at s3 s4 b7;have K:Tz { W1 with E:=W1.E+10 }:=t9;refine GO.cL (Γ:=B9 wb n { W1 with E:=W1.E+10 } (Ω jr 1 Sv b0 B ds::ξ fh 1 a5 zs::Ψ NV zs::Ω iz 5 RE h6 c4 os::Ψ OR os::cc::L)) (by simp only[B9,K3];exact ak) ?_;have d6:=λε:Η=>ou (L:=ε) wb n { W1 with E:=W1.E+10 } K 4 ae (ε:=600000000*j+7300000000*4+7300000000*4) (ac:=7*j+10) D (s3.mono D D D (an _)) s4;generalize ({ W1 with E:=W1.E+10 }:G1)=ado at *;refine GO.ca (d6 _) ?_;rintro _ _⟨W2,rfl,⟨k3,h0⟩,rfl⟩;have z5:=h0.d K;rw[<-k3] at b7
 have n0:F8 n 63 1900 (600000000*j+7300000000*4+7300000000*4) (7*j+10) W2.m:=by
  rw[k3];exact(s4 3 ae).2 400 (an _)
 have g3:(W2.aa.length:Int)=n:=by
  have q:=n0.len;simp only[G1.m,al] at q;exact q
 have b9:W2.gR=W.gR:=b7.gR;have bc:W2.gR.length=ds.length:=by rw[b9];exact f6
 have i6:=hP.Z ho;clear s1 s2 s3 s4 d5 d6 g5 k3 g7 h0 r5 h9 i9 i1 hU i2;simp only[B9,K3];refine XY ?_;intros;refine Α.loop (α:=Nat×OA×Nat×List Nat) (λg=>(g.1:Int)<=n*20/\g.2.2.2.length=g.1) (λg=>[(7,J n),(8,av wb),(10,ah a5 zs.length a7),(12,ah b0 ds.length B),(17,ah g.2.1 g.2.2.2.length g.2.2.1),(18,J (g.1:Int))]) (λg=>Ω iy 1 Rc g.2.1 g.2.2.1 g.2.2.2::ey O1 (g.2.2.2.map λb=>(b,[0,0,0,0]))::Ω jr 1 Sv b0 B ds::ξ fh 1 a5 zs::Ψ NV zs::Ψ OR os::B9 wb n W2 (cc::L)) (λg=>(n*20).toNat - g.1) (0,none,0,[]) ⟨by dsimp only;omega,rfl⟩ aD ?_ ?_
 .dsimp only;refine(F.j5 O1).trans ((F.c8 iy 1 Rc).trans ?_);simp only[B9,K3,bz];exact ak
 rintro⟨r,G4,M3,bs⟩ ⟨hr,n4⟩;dsimp only at hr n4 ⊢;by_cases bm:(r:Int)<n*20
 case pos =>
  refine XY ?_;intros;rename_i b1 b2;refine GO.ef (Ef.a8 (Ε:=iy) (e:=b1) rfl rfl rfl rfl rfl bh (Hi _) D D) ae ?_;rintro _ _⟨e9,d4,rfl,rfl⟩;refine XY ?_;intros;refine⟨(r+1,e9,d4,bs++[b1]),⟨by dsimp only;omega,by dsimp only;rw[ay,aX,n4]⟩,by dsimp only;omega,?_,?_⟩
  .dsimp only;rw[bC r];exact aD
  .dsimp only;rw[aQ,List.map_singleton];refine(F.at (Ο:=obj b1 B7 [J 0,J 0,J 0,J 0]) (F.d9 (Ε:=dJ .i64) (sz:=1) (I:=[0,0,0,0]) (n:=4) rfl rfl (λ_ _=>rfl) ae)).trans ?_;refine F.trans (fG:=O1 (b1,[0,0,0,0])::ey O1 (bs.map λb=>(b,[0,0,0,0]))::Ω iy 1 Rc e9 d4 (bs++[b1])::Ω jr 1 Sv b0 B ds::ξ fh 1 a5 zs::Ψ NV zs::Ψ OR os::B9 wb n W2 (cc::L)) (by simp only[O1];exact ak) ?_;refine F.Wl.trans ?_;exact ak
 have ai:(bs.length:Int)=n*20:=D;have t1:=Ql.zero bs;generalize (bs.map λb=>(b,[0,0,0,0]):List (Nat×List Int))=Z6 at *;obtain⟨b3,d0⟩:∃b3:List (List lu×Bool),(List.range ds.length).map (λq=>(ds[q]!.Z.map (·.m),ej W2.m.nf W2.gR[q]!))=b3:=⟨_,rfl⟩;have x1:b3.length=ds.length:=by rw[<-d0,al,List.length_range]
 have k1:∀q,q<ds.length->b3[q]! = (ds[q]!.Z.map (·.m),ej W2.m.nf W2.gR[q]!):=λq hq=>by
  have e:(List.range ds.length)[q]! = q:=by rw[D7 (show q<(List.range ds.length).length by rw[List.length_range];exact hq),List.getElem_range]
  rw[<-d0,eJ (by rw[List.length_range];exact hq),e]
 have k2:∀q∈b3,q.1.length<=4/\∀y∈q.1,Su n y:=λq hq=>by
  rw[<-d0] at hq;obtain⟨k,hk,rfl⟩:=H9 hq;have:=i6 _ (bA (List.mem_range.1 hk))
  exact⟨by rw[al];exact this.1,this.2⟩
 refine XY ?_;intros;refine Α.loop (α:=Nat×List (Nat×List Int)) (λg=>g.1<=ds.length/\Ql bs (λr x=>PA r x (b3.take g.1)) g.2) (λg=>[(7,J n),(8,av wb),(10,ah a5 zs.length a7),(12,ah b0 ds.length B),(17,ah G4 bs.length M3),(19,J (g.1:Int))]) (λg=>Ω iy 1 Rc G4 M3 bs::ey O1 g.2::Ω jr 1 Sv b0 B ds::ξ fh 1 a5 zs::Ψ NV zs::Ψ OR os::B9 wb n W2 (cc::L)) (λg=>ds.length - g.1) (0,Z6) ⟨aC _,t1.UC λr x=>by rw[bj];rfl⟩ aD (F.refl _) ?_;rintro⟨e,a6⟩ ⟨he,hG⟩;dsimp only at he hG ⊢;by_cases v2:e<ds.length
 case neg =>
  have j0:b3.take e=b3:=aM D;rw[j0] at hG;obtain⟨ε,hM⟩:∃ε:Int->Int->Int,(λr x=>PA r x b3)=ε:=⟨_,rfl⟩;rw[hM] at hG;have v0:¬(e:Int)<(W2.gR.length:Int):=D;simp only[B9,K3];refine XY ?_;intros;refine Α.loop (α:=Nat) (λi=>(i:Int)<=n) (λi=>[(7,J n),(8,av wb),(10,ah a5 zs.length a7),(17,ah G4 bs.length M3),(28,J (i:Int))]) (λi=>Ω iy 1 Rc G4 M3 bs::ey O1 a6::ξ fh 1 a5 zs::Ψ NV zs::B9 wb n W2 (cc::L)) (λi=>n.toNat - i) 0 D aD (by simp only[B9,K3];exact ak) ?_;rintro i3 ar;by_cases j1:(i3:Int)<n
  case neg =>
   refine XY ?_;intros;refine GO.cL (Γ:=cc::L) (by simp only[B9,K3];exact ak) ?_;refine GO.cr (EM) ?_;refine XY ?_;intros;exact KX.a8 aF F.drop ⟨rfl,rfl⟩
  have b4:(i3:Int).toNat<W2.aa.length:=D;obtain⟨s,a9⟩:∃s,W2.aa[(i3:Int).toNat]! = s:=⟨_,rfl⟩;have y1:(W2.aa.map (·.nb)).length=W2.aa.length:=al _
  have e7:(W2.aa.map (·.nb))[(i3:Int).toNat]! = s.nb:=by
   rw[<-a9];exact eJ (f:=λs:K2=>s.nb) b4
  have r0:(i3:Int)<(W2.aa.length:Int):=D;have e5:=n0.at (D:0<=(i3:Int)/\(i3:Int)<n);have s0:W2.m.nd (i3:Int)=(s.n.m,s.S):=G1.a8 D a9;rw[s0] at e5;have d2:=b7.Z4 (i3:Int) D;rw[EF D a9] at d2;have f4:=e5.a.WT d1.2;have u2:s.n.m.Φ.length=s.n.Φ.length:=al _;have y3:s.n.m.Β.length=s.n.Β.length:=al _;simp only[B9,K3];refine XY ?_;intros;rw[e7];refine GO.cL (Γ:=B9 wb n W2 (Ω iy 1 Rc G4 M3 bs::ey O1 a6::ξ fh 1 a5 zs::Ψ NV zs::cc::L)) (by simp only[B9,K3];exact ak) ?_;refine GO.cL (tP b4 a9) ?_;refine GO.ca (wm s.nb s.lb s.d n s.n (by dsimp only at f4;omega) (by dsimp only at f4;omega) e5.a.hin.XL) ?_;rw[d2];rintro _ _⟨z4,s7,rfl,rfl⟩;refine XY ?_;intros;refine Α.loop (α:=Nat) (λa=>1<=a/\a<=6) (λa=>[(7,J n),(8,av wb),(10,ah a5 zs.length a7),(17,ah G4 bs.length M3),(28,J (i3:Int)),(29,J (a:Int))]) (λa=>Ω iy 1 Rc G4 M3 bs::ey O1 a6::ξ fh 1 a5 zs::Ψ NV zs::B9 wb n W2 (cc::L)) (λa=>6 - a) 1 ⟨an _,by decide⟩ aD ?_ ?_
  .refine F.trans (fG:=eu s.nb s.lb s.d n s.n (Te wb n W2 (i3:Int).toNat s (Ω iy 1 Rc G4 M3 bs::ey O1 a6::ξ fh 1 a5 zs::Ψ NV zs::cc::L))) (by simp only[eu,Te];exact ak) ?_;refine(oH b4 a9).trans ?_;simp only[B9,K3];exact ak
  rintro a ⟨z9,af⟩;by_cases u1:a<6
  case neg =>
   refine XY ?_;intros;refine⟨i3+1,D,D,?_,by exact ak⟩;rw[bC i3];exact aD
  have ag:(a:Int)<6:=D;refine XY ?_;intros;refine Α.loop (α:=Nat) (λx=>x<=4) (λx=>[(7,J n),(8,av wb),(10,ah a5 zs.length a7),(17,ah G4 bs.length M3),(28,J (i3:Int)),(29,J (a:Int)),(30,J (x:Int))]) (λx=>Ω iy 1 Rc G4 M3 bs::ey O1 a6::ξ fh 1 a5 zs::Ψ NV zs::B9 wb n W2 (cc::L)) (λx=>4 - x) 0 ae aD (F.refl _) ?_;rintro x bo;by_cases bp:x<4
  case neg =>
   refine XY ?_;intros;refine⟨a+1,D,D,?_,by exact ak⟩;rw[bC a];exact aD
  have z3:(x:Int)<4:=D;obtain⟨g1,_,_,g4⟩:=Oc.seen (S:=s.S) (D:0<=(i3:Int)/\(i3:Int)<12) e5.a.hin.K1 (by have:=e5.bd;dsimp only at this;omega);have o5:dg s.S<=1900:=by have:=e5.bd;dsimp only at this;omega
  have i0:(i3:Int).toNat=i3:=D;obtain⟨hH,i5⟩:=hz i3 D;obtain⟨_,_,_,_,w4⟩:=g2 i3 D
  have l1:∀j,0<=P9 (a:Int) (x:Int) (zs[(i3:Int).toNat]!.hs.take j)/\P9 (a:Int) (x:Int) (zs[(i3:Int).toNat]!.hs.take j)<=1099511627776:=λj=>by
   rw[i0];rcases hH.part (a:Int) (x:Int) j with q|q
   .rw[q];decide
   .rw[q];exact w4 _ _
  have l6:aY (s.S.ν (a:Int) (x:Int)) - P9 (a:Int) (x:Int) zs[(i3:Int).toNat]!.hs=ε ((20*(i3:Int)+(a:Int)).toNat:Int) (x:Int):=by
   have q:=b7.TE (i3:Int) (a:Int) (x:Int) D D;rw[s0] at q
   have q0:VG W0.m (i3:Int) (a:Int) (x:Int)=Vo W0.aa[i3]!.S (a:Int) (x:Int):=by
    unfold VG;rw[G1.a8 (W:=W0) (k:=(i3:Int)) D rfl,i0];rfl
   have qs:((List.range W.m.gR.length).map λj=>if ej W2.m.nf W.m.gR[j]! = true then VF (i3:Int) (a:Int) (x:Int) (ds.map λo=>o.Z.map (·.m))[j]! else 0).sum=PA (20*(i3:Int)+(a:Int)) (x:Int) b3:=by
    rw[<-d0,Gu (tk:=λq=>ej W2.m.nf W2.gR[q]!) D λo ho=>(i6 o ho).2,r6,b9];rfl
   rw[i0,hH.sub,show((20*(i3:Int)+(a:Int)).toNat:Int)=20*(i3:Int)+(a:Int) by omega,<-hM];dsimp only at q ⊢;rw[qs,q0] at q;omega
  have e6:(20*(i3:Int)+(a:Int)).toNat<bs.length:=D;have y4:20*(i3:Int)+(a:Int)<(bs.length:Int):=D;have k6:(OG ε ((20*(i3:Int)+(a:Int)).toNat:Int)).length=4:=rfl;have l5:(OG ε ((20*(i3:Int)+(a:Int)).toNat:Int))[(x:Int).toNat]! = ε ((20*(i3:Int)+(a:Int)).toNat:Int) (x:Int):=oL ⟨D,z3⟩;refine Α.cL (Γ:=Ω (dJ .i64) 1 B7 (some ⟨bs[(20*(i3:Int)+(a:Int)).toNat]!,0,none⟩) 4 (OG ε ((20*(i3:Int)+(a:Int)).toNat:Int))::ey O1 (a6.eraseIdx (20*(i3:Int)+(a:Int)).toNat)::Ω iy 1 Rc G4 M3 bs::ξ fh 1 a5 zs::Ψ NV zs::B9 wb n W2 (cc::L)) ?_ ?_
  .refine(F.at (Ο:=ey O1 a6) (yd hG e6)).trans ?_;exact ak
  refine XY ?_;intros;refine δ.cL (Γ:=ξ fh 1 a5 zs::Ψ NV zs::B9 wb n W2 (Ω (dJ .i64) 1 B7 (some ⟨bs[(20*(i3:Int)+(a:Int)).toNat]!,0,none⟩) 4 (OG ε ((20*(i3:Int)+(a:Int)).toNat:Int))::ey O1 (a6.eraseIdx (20*(i3:Int)+(a:Int)).toNat)::Ω iy 1 Rc G4 M3 bs::cc::L)) (by simp only[B9,K3];exact ak) ?_;refine δ.ca (Cb wb n W2 g3 (i3:Int) ⟨D,j1⟩ (a:Int) (x:Int) a5 a7 zs D (dg s.S) (by rw[a9];exact g1) D (by rw[a9];exact g4 _ _) l1 (by rw[i0];exact i5)) ?_;rw[a9,l6,<-l5];rintro _ _⟨rfl,rfl⟩;simp only[B9,K3];refine XY ?_;intros;refine⟨x+1,D,D,?_,?_⟩
  .rw[bC x];exact aD
  .refine F.trans (fG:=Ω (dJ .i64) 1 B7 (some ⟨bs[(20*(i3:Int)+(a:Int)).toNat]!,0,none⟩) 4 (OG ε ((20*(i3:Int)+(a:Int)).toNat:Int))::ey O1 (a6.eraseIdx (20*(i3:Int)+(a:Int)).toNat)::Ω iy 1 Rc G4 M3 bs::ξ fh 1 a5 zs::Ψ NV zs::B9 wb n W2 (cc::L)) (by simp only[B9,K3];exact ak) ?_;refine(Kw hG e6).trans ?_;exact ak
 have v1:(e:Int).toNat=e:=D;have v0:(e:Int)<(W2.gR.length:Int):=D
 have o2:W2.gR[(e:Int).toNat]!∈W.m.gR:=by
  have q:W2.gR[(e:Int).toNat]!∈W2.gR:=bA D;rw[b9] at q;rw[b9];exact q
 obtain⟨⟨u3,n6⟩,h4⟩:=b7.XD _ o2;have n3:=b7.Pk _ o2;obtain⟨hm,o3⟩:∃h,W2.gR[(e:Int).toNat]! / 4294967296=h:=⟨_,rfl⟩;have u5:bZ W2.gR[(e:Int).toNat]! = hm:=o3;rw[u5] at u3 n6 h4;obtain⟨st,c2⟩:∃st:Int,(if ej W2.m.nf W2.gR[(e:Int).toNat]! = true then 2 else 3)=st:=⟨_,rfl⟩;rw[c2] at h4 n3;have s6:st=2\/st=3:=by rw[<-c2];split<;>simp
 have b4:hm.toNat<W2.aa.length:=D;obtain⟨s,a9⟩:∃s,W2.aa[hm.toNat]! = s:=⟨_,rfl⟩;have y1:(W2.aa.map (·.nb)).length=W2.aa.length:=al _
 have e7:(W2.aa.map (·.nb))[hm.toNat]! = s.nb:=by
  rw[<-a9];exact eJ (f:=λs:K2=>s.nb) b4
 have r0:hm<(W2.aa.length:Int):=D;have x5:¬hm<0:=D;have y0:¬hm >= n:=D;rw[EF D a9] at h4;simp only[B9,K3];refine XY ?_;intros;refine GO.ev (Ev.w5 rfl rfl) ae ?_;rw[o3];refine XY ?_;intros;rw[e7];refine δ.cL (Γ:=B9 wb n W2 (Qm G4 M3 bs a6 b0 B ds a5 zs os L)) (by simp only[B9,K3,Qm];exact ak) ?_;refine δ.cL (tP b4 a9) ?_;refine δ.ca (lJ s.nb s.lb s.d n s.n W2.gR[(e:Int).toNat]!) ?_;rw[h4];rintro _ _⟨rfl,rfl⟩;repeat first|refine Α.sm 34 ?_|refine dA ?_|intro _|refine aR ?_
 refine Α.c7 (α:=Unit) (λ_=>True) (λ_=>[(7,J n),(8,av wb),(10,ah a5 zs.length a7),(12,ah b0 ds.length B),(17,ah G4 bs.length M3),(19,J (e:Int)),(21,J st)]) (λ_=>B9 wb n W2 (Qm G4 M3 bs a6 b0 B ds a5 zs os L)) ?_ ?_
 .by_cases T:st=2
  .refine XY ?_;intros;exact⟨(),trivial,aD,oH b4 a9⟩
  .have h3:st=3:=D;refine XY ?_;intros;exact⟨(),trivial,aD,oH b4 a9⟩
 rintro _ _;refine XY ?_;intros;refine Α.loop (α:=Nat) (λk=>(k:Int)<=n) (λk=>[(7,J n),(8,av wb),(10,ah a5 zs.length a7),(12,ah b0 ds.length B),(17,ah G4 bs.length M3),(19,J (e:Int)),(21,J st),(22,J (k:Int))]) (λk=>B9 wb n W2 (Qm G4 M3 bs a6 b0 B ds a5 zs os L)) (λk=>n.toNat - k) 0 D aD (F.refl _) ?_;rintro k hk;clear b4 a9 e7 h4;by_cases w3:(k:Int)<n
 case pos =>
  have b4:(k:Int).toNat<W2.aa.length:=D;obtain⟨s,a9⟩:∃s,W2.aa[(k:Int).toNat]! = s:=⟨_,rfl⟩
  have e7:(W2.aa.map (·.nb))[(k:Int).toNat]! = s.nb:=by
   rw[<-a9];exact eJ (f:=λs:K2=>s.nb) b4
  have r0:(k:Int)<(W2.aa.length:Int):=D;have f3:=n3 k ⟨D,w3⟩;rw[EF D a9] at f3;simp only[B9,K3,Qm];refine XY ?_;intros;rw[e7];refine δ.cL (Γ:=B9 wb n W2 (Qm G4 M3 bs a6 b0 B ds a5 zs os L)) (by simp only[B9,K3,Qm];exact ak) ?_;refine δ.cL (tP b4 a9) ?_;refine δ.ca (lJ s.nb s.lb s.d n s.n W2.gR[(e:Int).toNat]!) ?_;generalize fU s.n.m W2.gR[(e:Int).toNat]! = tt at *;rintro _ _⟨rfl,rfl⟩;rcases f3 with rfl|rfl
  .by_cases q:(0:Int)=st
   .omega
   refine XY ?_;intros;refine⟨k+1,D,D,?_,oH b4 a9⟩;rw[bC k];exact aD
  .refine XY ?_;intros;refine⟨k+1,D,D,?_,oH b4 a9⟩;rw[bC k];exact aD
 have o1:ds[(e:Int).toNat]!∈ds:=bA D;have ao:(e:Int)<(ds.length:Int):=D;obtain⟨aE,p4⟩:=i6 _ o1
 have i2:b3.take (e+1)=b3.take e++[(ds[(e:Int).toNat]!.Z.map (·.m),ej W2.m.nf W2.gR[(e:Int).toNat]!)]:=by
  rw[aB D,<-D7,k1 e v2,v1]
 have d2:∀ε:Η,F (B9 wb n W2 (Qm G4 M3 bs a6 b0 B ds a5 zs os L)++ε) (ξ aZ 5 ds[(e:Int).toNat]!.bG ds[(e:Int).toNat]!.Z::Ψ iJ ds[(e:Int).toNat]!.Z::B9 wb n W2 (Qm G4 M3 bs a6 b0 B ds a5 zs os L)++ε):=λε=>by
  simp only[B9,K3,Qm,au];refine(F.at (Ο:=Ψ OR os) (F.d8 (f:=OR) (hP.sub _ o1))).trans ?_;refine(F.at (Ο:=OR ds[(e:Int).toNat]!) Go).trans ?_;exact ak
 have x4:∀r x,-4000<=PA r x (b3.take e)/\PA r x (b3.take e)<=4000:=λr x=>by
  have q:=Gv (r:=r) (x:=x) (l:=b3.take e) λq hq=>k2 q (cp hq);rw[aP] at q;omega
 refine XY ?_;intros;refine Α.loop (α:=Nat×List (Nat×List Int)) (λg=>g.1<=ds[(e:Int).toNat]!.Z.length/\(st=3->g.1=0)/\Ql bs (λr x=>PA r x (b3.take e)+Qa r x ((ds[(e:Int).toNat]!.Z.map (·.m)).take g.1)) g.2) (λg=>[(7,J n),(8,av wb),(10,ah a5 zs.length a7),(12,ah b0 ds.length B),(17,ah G4 bs.length M3),(19,J (e:Int)),(21,J st),(24,J (g.1:Int))]) (λg=>ξ aZ 5 ds[(e:Int).toNat]!.bG ds[(e:Int).toNat]!.Z::Ψ iJ ds[(e:Int).toNat]!.Z::B9 wb n W2 (Qm G4 M3 bs g.2 b0 B ds a5 zs os L)) (λg=>ds[(e:Int).toNat]!.Z.length - g.1) (0,a6) ⟨aC _,λ_=>rfl,hG.UC λr x=>by rw[bj];exact dC _⟩ aD ?_ ?_
 .have q:=d2 [];rw[aI,aI] at q;exact q
 rintro⟨k,c5⟩ ⟨hk,j4,h8⟩;dsimp only at hk j4 h8 ⊢;by_cases p1:k<ds[(e:Int).toNat]!.Z.length
 case neg =>
  have e2:∀r x,PA r x (b3.take (e+1))=PA r x (b3.take e)+Qa r x ((ds[(e:Int).toNat]!.Z.map (·.m)).take k):=λr x=>by
   rw[i2,zd];dsimp only;by_cases hT:ej W2.m.nf W2.gR[(e:Int).toNat]! = true
   .rw[Χ hT,aM (show(ds[(e:Int).toNat]!.Z.map (·.m)).length<=k by rw[al];omega)]
   .rw[Ν hT] at c2 ⊢;rw[j4 c2.symm];rfl
  simp only[B9,K3,Qm];refine XY ?_;intros;refine⟨(e+1,c5),⟨by dsimp only;omega,h8.UC e2⟩,by dsimp only;omega,?_,by exact ak⟩;dsimp only;rw[bC e];exact aD
 by_cases T:st=2
 case neg =>
  have h3:st=3:=D
  have e2:∀r x,PA r x (b3.take (e+1))=PA r x (b3.take e)+Qa r x ((ds[(e:Int).toNat]!.Z.map (·.m)).take k):=λr x=>by
   rw[i2,zd];dsimp only
   have hT:¬ej W2.m.nf W2.gR[(e:Int).toNat]! = true:=λq=>by
    rw[Χ q] at c2;exact T c2.symm
   rw[Ν hT,j4 h3];rfl
  simp only[B9,K3,Qm];refine XY ?_;intros;refine⟨(e+1,c5),⟨by dsimp only;omega,h8.UC e2⟩,by dsimp only;omega,?_,by exact ak⟩;dsimp only;rw[bC e];exact aD
 have w1:(k:Int)<(ds[(e:Int).toNat]!.Z.length:Int):=D;have o5:(k:Int).toNat=k:=D;simp only[B9,K3,Qm];refine XY ?_;intros;rename_i bx;obtain⟨l,U⟩:∃l,ds[(e:Int).toNat]!.Z[(k:Int).toNat]! = l:=⟨_,rfl⟩;rw[U];have p3:l∈ds[(e:Int).toNat]!.Z:=by rw[<-U];exact bA D
 have hQ:Su n l.m:=p4 _ (List.mem_map.2 ⟨l,p3,rfl⟩)
 have l3:(ds[(e:Int).toNat]!.Z.map (·.m)).take (k+1)=(ds[(e:Int).toNat]!.Z.map (·.m)).take k++[l.m]:=by
  rw[aB (by rw[al];exact p1),eW,<-U,o5,D7 p1]
 have k4:∀r x,-5000<=PA r x (b3.take e)+Qa r x ((ds[(e:Int).toNat]!.Z.map (·.m)).take k)/\PA r x (b3.take e)+Qa r x ((ds[(e:Int).toNat]!.Z.map (·.m)).take k)<=5000:=λr x=>by
  have q:=zi (r:=r) (x:=x) (ls:=(ds[(e:Int).toNat]!.Z.map (·.m)).take k) λy Y=>p4 y (cp Y);have q2:=x4 r x;have q3:((ds[(e:Int).toNat]!.Z.map (·.m)).take k).length<=4:=by rw[aP,al];omega
  omega
 simp only[aZ];refine Α.loop (α:=Nat×List (Nat×List Int)) (λg=>g.1<=l.m.am.length/\Ql bs (λr x=>PA r x (b3.take e)+Qa r x ((ds[(e:Int).toNat]!.Z.map (·.m)).take k)+Rr r x l.m (l.m.am.take g.1)) g.2) (λg=>[(7,J n),(8,av wb),(10,ah a5 zs.length a7),(12,ah b0 ds.length B),(17,ah G4 bs.length M3),(19,J (e:Int)),(21,J st),(24,J (k:Int)),(25,av bx),(26,J (g.1:Int))]) (λg=>iJ l::obj bx iZ [J l.m.d,J l.m.fr,J l.m.ts,J l.m.to,ah l.ad l.m.am.length l.cap]::ξ aZ 5 ds[(e:Int).toNat]!.bG ds[(e:Int).toNat]!.Z::Ψ iJ ds[(e:Int).toNat]!.Z::B9 wb n W2 (Qm G4 M3 bs g.2 b0 B ds a5 zs os L)) (λg=>l.m.am.length - g.1) (0,c5) ⟨aC _,h8.UC λr x=>by rw[bj];unfold Rr NS;simp⟩ aD ?_ ?_
 .dsimp only;refine(F.at (Ο:=Ψ iJ ds[(e:Int).toNat]!.Z) (F.d8 (f:=iJ) p3)).trans ?_;simp only[B9,K3,Qm];exact ak
 rintro⟨j2,b6⟩ ⟨v3,e4⟩;dsimp only at v3 e4 ⊢;by_cases g0:j2<l.m.am.length
 case neg =>
  simp only[B9,K3,Qm];refine XY ?_;intros;refine⟨(k+1,b6),⟨by dsimp only;omega,λq=>D,e4.UC λr x=>?_⟩,by dsimp only;omega,?_,by exact ak⟩
  .dsimp only;rw[l3,IN,aM (D:l.m.am.length<=j2)];omega
  dsimp only;rw[bC k];exact aD
 have v4:(j2:Int)<(l.m.am.length:Int):=D;have o4:(j2:Int).toNat=j2:=D;obtain⟨⟨M,a2⟩,a3,a4⟩:=hQ.am l.m.am[(j2:Int).toNat]! (bA D);have l4:l.m.am.take (j2+1)=l.m.am.take j2++[l.m.am[(j2:Int).toNat]!]:=by rw[o4,aB g0,D7 g0]
 obtain⟨ε,hM⟩:∃ε:Int->Int->Int,(λr x=>PA r x (b3.take e)+Qa r x ((ds[(e:Int).toNat]!.Z.map (·.m)).take k)+Rr r x l.m (l.m.am.take j2))=ε:=⟨_,rfl⟩
 have n1:∀r x,-5100<=ε r x/\ε r x<=5100:=λr x=>by
  rw[<-hM];have q:=CH (r:=r) (x:=x) hQ j2;have q2:=k4 r x;dsimp only;omega
 rw[hM] at e4;have q1:=hQ.d;have q2:=hQ.fr;have q3:=hQ.ts;have q4:=hQ.to;have e6:(20*l.m.d+l.m.fr).toNat<bs.length:=D;have j3:(20*l.m.ts+l.m.to).toNat<bs.length:=D;have y4:20*l.m.d+l.m.fr<(bs.length:Int):=D;have bl:20*l.m.ts+l.m.to<(bs.length:Int):=D;have br:¬20*l.m.d+l.m.fr<0:=D;have bt:¬20*l.m.ts+l.m.to<0:=D;refine Α.cL (Γ:=iJ l::obj bx iZ [J l.m.d,J l.m.fr,J l.m.ts,J l.m.to,ah l.ad l.m.am.length l.cap]::ξ aZ 5 ds[(e:Int).toNat]!.bG ds[(e:Int).toNat]!.Z::Ψ iJ ds[(e:Int).toNat]!.Z::Ω (dJ .i64) 1 B7 (some ⟨bs[(20*l.m.d+l.m.fr).toNat]!,0,none⟩) 4 (OG ε ((20*l.m.d+l.m.fr).toNat:Int))::ey O1 (b6.eraseIdx (20*l.m.d+l.m.fr).toNat)::Ω iy 1 Rc G4 M3 bs::Ω jr 1 Sv b0 B ds::ξ fh 1 a5 zs::Ψ NV zs::Ψ OR os::B9 wb n W2 (cc::L)) ?_ ?_
 .simp only[B9,K3,Qm];refine(F.at (Ο:=ey O1 b6) (yd e4 e6)).trans ?_;exact ak
 have k6:(OG ε ((20*l.m.d+l.m.fr).toNat:Int)).length=4:=rfl;have l5:=n1 ((20*l.m.d+l.m.fr).toNat:Int) l.m.am[(j2:Int).toNat]!.1;rw[<-oL (ε:=ε) (r:=((20*l.m.d+l.m.fr).toNat:Int)) ⟨M,a2⟩] at l5;have ap:l.m.am[(j2:Int).toNat]!.1.toNat<4:=D
 have s9:(OG ε ((20*l.m.d+l.m.fr).toNat:Int)).set l.m.am[(j2:Int).toNat]!.1.toNat ((OG ε ((20*l.m.d+l.m.fr).toNat:Int))[l.m.am[(j2:Int).toNat]!.1.toNat]! - l.m.am[(j2:Int).toNat]!.2)=(OG ε ((20*l.m.d+l.m.fr).toNat:Int)).set l.m.am[(j2:Int).toNat]!.1.toNat (ε ((20*l.m.d+l.m.fr).toNat:Int) l.m.am[(j2:Int).toNat]!.1 + -l.m.am[(j2:Int).toNat]!.2):=by
  rw[oL ⟨M,a2⟩];rfl
 have f0:=e4.Pu e6 (v:=-l.m.am[(j2:Int).toNat]!.2) ⟨M,a2⟩;obtain⟨M2,i7⟩:∃M2,TG ε ((20*l.m.d+l.m.fr).toNat:Int) l.m.am[(j2:Int).toNat]!.1 (-l.m.am[(j2:Int).toNat]!.2)=M2:=⟨_,rfl⟩
 have i8:∀r x,-5200<=M2 r x/\M2 r x<=5200:=λr x=>by
  rw[<-i7];have:=n1 r x
  unfold TG;split<;>omega
 rw[i7] at f0;obtain⟨c0,n2⟩:∃c0,b6.set (20*l.m.d+l.m.fr).toNat (bs[(20*l.m.d+l.m.fr).toNat]!,(OG ε ((20*l.m.d+l.m.fr).toNat:Int)).set l.m.am[(j2:Int).toNat]!.1.toNat (ε ((20*l.m.d+l.m.fr).toNat:Int) l.m.am[(j2:Int).toNat]!.1 + -l.m.am[(j2:Int).toNat]!.2))=c0:=⟨_,rfl⟩;rw[n2] at f0;have z0:(OG M2 ((20*l.m.ts+l.m.to).toNat:Int)).length=4:=rfl;have z2:=i8 ((20*l.m.ts+l.m.to).toNat:Int) l.m.am[(j2:Int).toNat]!.1;rw[<-oL (ε:=M2) (r:=((20*l.m.ts+l.m.to).toNat:Int)) ⟨M,a2⟩] at z2
 have t0:(OG M2 ((20*l.m.ts+l.m.to).toNat:Int)).set l.m.am[(j2:Int).toNat]!.1.toNat ((OG M2 ((20*l.m.ts+l.m.to).toNat:Int))[l.m.am[(j2:Int).toNat]!.1.toNat]! + l.m.am[(j2:Int).toNat]!.2)=(OG M2 ((20*l.m.ts+l.m.to).toNat:Int)).set l.m.am[(j2:Int).toNat]!.1.toNat (M2 ((20*l.m.ts+l.m.to).toNat:Int) l.m.am[(j2:Int).toNat]!.1+l.m.am[(j2:Int).toNat]!.2):=by
  rw[oL ⟨M,a2⟩]
 have t2:=f0.Pu j3 (v:=l.m.am[(j2:Int).toNat]!.2) ⟨M,a2⟩
 have h5:∀r x,PA r x (b3.take e)+Qa r x ((ds[(e:Int).toNat]!.Z.map (·.m)).take k)+Rr r x l.m (l.m.am.take (j2+1))=TG M2 ((20*l.m.ts+l.m.to).toNat:Int) l.m.am[(j2:Int).toNat]!.1 l.m.am[(j2:Int).toNat]!.2 r x:=λr x=>by
  rw[l4,GC,<-i7,<-hM];unfold TG;rw[show((20*l.m.d+l.m.fr).toNat:Int)=20*l.m.d+l.m.fr by omega,show((20*l.m.ts+l.m.to).toNat:Int)=20*l.m.ts+l.m.to by omega];dsimp only;omega
 refine XY ?_;intros;rename_i ba;rw[s9];refine δ.cL (Γ:=Ω (dJ .i64) 1 B7 (some ⟨bs[(20*l.m.ts+l.m.to).toNat]!,0,none⟩) 4 (OG M2 ((20*l.m.ts+l.m.to).toNat:Int))::ey O1 (c0.eraseIdx (20*l.m.ts+l.m.to).toNat)::obj ba Qc [J l.m.am[(j2:Int).toNat]!.1,J l.m.am[(j2:Int).toNat]!.2]::iJ l::obj bx iZ [J l.m.d,J l.m.fr,J l.m.ts,J l.m.to,ah l.ad l.m.am.length l.cap]::ξ aZ 5 ds[(e:Int).toNat]!.bG ds[(e:Int).toNat]!.Z::Ψ iJ ds[(e:Int).toNat]!.Z::Ω iy 1 Rc G4 M3 bs::Ω jr 1 Sv b0 B ds::ξ fh 1 a5 zs::Ψ NV zs::Ψ OR os::B9 wb n W2 (cc::L)) ?_ ?_
 .refine F.trans (fG:=Ω (dJ .i64) 1 B7 (some ⟨bs[(20*l.m.d+l.m.fr).toNat]!,0,none⟩) 4 ((OG ε ((20*l.m.d+l.m.fr).toNat:Int)).set l.m.am[(j2:Int).toNat]!.1.toNat (ε ((20*l.m.d+l.m.fr).toNat:Int) l.m.am[(j2:Int).toNat]!.1 + -l.m.am[(j2:Int).toNat]!.2))::ey O1 (b6.eraseIdx (20*l.m.d+l.m.fr).toNat)::obj ba Qc [J l.m.am[(j2:Int).toNat]!.1,J l.m.am[(j2:Int).toNat]!.2]::iJ l::obj bx iZ [J l.m.d,J l.m.fr,J l.m.ts,J l.m.to,ah l.ad l.m.am.length l.cap]::ξ aZ 5 ds[(e:Int).toNat]!.bG ds[(e:Int).toNat]!.Z::Ψ iJ ds[(e:Int).toNat]!.Z::Ω iy 1 Rc G4 M3 bs::Ω jr 1 Sv b0 B ds::ξ fh 1 a5 zs::Ψ NV zs::Ψ OR os::B9 wb n W2 (cc::L)) ?_ ?_
  .simp only[dZ];exact ak
  .refine(JM e4 e6 _).trans ?_;rw[n2];exact yd f0 j3
 refine δ.Ob (Ev.k7 (Ε:=dJ .i64) (sz:=1) (j:=l.m.am[(j2:Int).toNat]!.1.toNat) (o:=0) (I:=OG M2 ((20*l.m.ts+l.m.to).toNat:Int)) rfl D D ae rfl) ae ?_;have u1:=hQ.len;refine XY ?_;intros;rw[t0];refine⟨(j2+1,c0.set (20*l.m.ts+l.m.to).toNat (bs[(20*l.m.ts+l.m.to).toNat]!,(OG M2 ((20*l.m.ts+l.m.to).toNat:Int)).set l.m.am[(j2:Int).toNat]!.1.toNat (M2 ((20*l.m.ts+l.m.to).toNat:Int) l.m.am[(j2:Int).toNat]!.1+l.m.am[(j2:Int).toNat]!.2))),⟨by dsimp only;omega,t2.UC h5⟩,by dsimp only;omega,?_,?_⟩
 .dsimp only;rw[bC j2];exact aD
 .refine(JM f0 j3 _).trans ?_;simp only[B9,K3,Qm];exact ak
