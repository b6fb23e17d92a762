/- Lemmas. -/
import Derived.Test.YtlgpgjdggilkgaaGreatDoorEcbn
set_option linter.all false
set_option maxHeartbeats 16000000
namespace Go.Proofs.YtlgpgjdggilkgaaGreatDoor
section
open Go.V
attribute [local irreducible] G GO GP GPW GPK GF GE Ev Ef EfR Ent CB GB V.Enters bX delM
def qJ{L:LH}(nb lb:Nat)(sh shs:Int)(hs:0≤sh∧sh<shs)(a3:shs≤12)(n0:NdV)(S0:LedM)(cat:CatM)(hA:NdA cat sh shs n0.m S0)(h5:kOf S0+pot n0.m≤2000)(tick:Int) :
  Tri Tryz.prog 41 #[ax nb,ac tick] (ndL nb lb sh shs n0 (aS lb S0::L)) (lN nb lb sh shs (eu sh tick n0.m S0) L):=by
 have h3:=hA.few a3;have j3:n0.m.begun.length=n0.begun.length:=an _;have k4:n0.m.parts.length=n0.parts.length:=an _;have k0:=oX n0.m;unfold eu;refine Tri.bd ?_;refine Ks ?_;intros;refine GO.ca (tG nb lb sh shs n0 ab ab) ?_;rintro _ _⟨kad,kcap,rfl,rfl⟩;generalize gx n0.m=ks at *;have hF:=fun i=>sA (tick:=tick) (b:=2000) hs a3 (aq _) (ks.take i) n0.m S0 hA h5;refine Ks ?_;intros;refine G.loop (α:=Nat×NdV×OA×Nat×List MsV) (fun g=>g.1≤ks.length∧g.2.1.m=(cn (adv1 sh tick) (ks.take g.1) n0.m S0).2.1∧g.2.2.2.2.map (·.m)=(cn (adv1 sh tick) (ks.take g.1) n0.m S0).1) (fun g=>[(0,ax nb),(1,ac tick),(5,ag g.2.2.1 g.2.2.2.2.length g.2.2.2.1),(14,ag kad ks.length kcap),(15,ac (ks.length:Int)),(16,ac (g.1:Int))]) (fun g=>osl bC 3 tMs g.2.2.1 g.2.2.2.1 g.2.2.2.2::allP msP g.2.2.2.2::osl (encZ .i64) 1 tInt kad kcap ks::ndL nb lb sh shs g.2.1 (aS lb (cn (adv1 sh tick) (ks.take g.1) n0.m S0).2.2::L)) (fun g=>ks.length - g.1) (0,n0,none,0,[]) ⟨aw _,by rw[aR];rfl,by rw[aR];rfl⟩ aC ?_ ?_
 ·dsimp only;rw[aR];refine(Ent.c8 bC 3 tMs).trans ((Ent.c7 msP).trans ?_);simp only[ndL,ndC,cn];exact ah
 rintro⟨i,n,rad,rcap,ms⟩ ⟨hi,hn,c0⟩;dsimp only at hi hn c0 ⊢;have d4:=hF i
 have k3:ms.length≤600000000:=by
  have e1:=congrArg List.length c0;have e2:=d4.len;rw[an] at e1;rw[aK] at e2;have e3:=bj 330100 (ab:min i ks.length≤1536);omega
 by_cases h7:i<ks.length
 case neg =>
  have d2:ks.take i=ks:=aD ab;rw[d2] at hn c0 ⊢;refine Ks ?_;intros;refine KX.a8 aA ?_ ⟨rad,rcap,ms,n,rfl,c0,hn,rfl⟩;simp only[ndL,ndC];exact ah
 have h4:(i:Int).toNat=i:=ab;have a1:=pi (adv1 sh tick) ks n0.m S0 h7;generalize cn (adv1 sh tick) (ks.take i) n0.m S0=F at *;have c4:NdA cat sh shs n.m F.2.2:=by rw[hn];exact d4.nd
 have g7:kOf F.2.2+pot n.m≤2000:=by rw[hn];exact d4.bd
 rw[←hn] at a1;generalize hS1:F.2.2=S1 at *;generalize hkk:ks[i]! = k at *;have d5:adv1 sh tick k n.m S1=((advU sh tick k n.m S1).1++(advP sh tick k (advU sh tick k n.m S1).2.1 (advU sh tick k n.m S1).2.2).1,(advP sh tick k (advU sh tick k n.m S1).2.1 (advU sh tick k n.m S1).2.2).2.1,(advP sh tick k (advU sh tick k n.m S1).2.1 (advU sh tick k n.m S1).2.2).2.2):=rfl;rw[d5] at a1;dsimp only at a1;have hU:=Gj (tick:=tick) (id:=k) hs a3 c4 g7 (aq _);simp only[ndL,ndC];refine G.c9 (fi (b:=n.mb)) fun f5=>?_;repeat first|refine G.sm 5 ?_|refine dq ?_|intro
 rw[h4,hkk];refine G.c7 (α:=NdV×OA×Nat×List MsV) (fun g=>g.1.m=(advU sh tick k n.m S1).2.1∧g.2.2.2.map (·.m)=ms.map (·.m)++(advU sh tick k n.m S1).1) (fun g=>[(0,ax nb),(1,ac tick),(5,ag g.2.1 g.2.2.2.length g.2.2.1),(7,ac k),(14,ag kad ks.length kcap),(15,ac (ks.length:Int)),(16,ac (i:Int))]) (fun g=>osl bC 3 tMs g.2.1 g.2.2.1 g.2.2.2::allP msP g.2.2.2::osl (encZ .i64) 1 tInt kad kcap ks::ndL nb lb sh shs g.1 (aS lb (advU sh tick k n.m S1).2.2::L)) ?_ ?_
 ·cases hg:List.lookup k n.begun with
  | none =>
   have hu:advU sh tick k n.m S1=([],n.m,S1):=by
    unfold advU;rw[gc,hg];rfl
   rw[hu];refine Ks ?_;intros;refine GO.ev (Ev.a8 rfl rfl) ae ?_;rw[hg];dsimp only[Option.map,Option.getD,Option.isSome];refine Ks ?_;intros;refine⟨(n,rad,rcap,ms),⟨rfl,(aH _).symm⟩,aC,?_⟩;simp only[ndL,ndC];exact ah
  | some x =>
   have hl:glk n.m.begun k=some x.m:=by rw[gc,hg];rfl
   have hw:=c4.ndw.ex _ (cu hl);have c5:okId shs k:=hw.id;have hI:I64 k:=c5.i64 a3;obtain⟨⟨e1,e2,e3,e4⟩,hm,b3⟩:=Eu (tick:=tick) hs a3 c4 hl
   have hu:advU sh tick k n.m S1=delM sh tick (ga sh k x.m tick).1 { n.m with begun:=gins n.m.begun k (ga sh k x.m tick).2 } S1:=by
    unfold advU;rw[hl]
   have hin:=c4.hin.setB (id:=k) (x:=(ga sh k x.m tick).2) (by rw[e2];exact hw.ok.gl);have i5:=hU.len;refine G.ent (Ent.at (A:=bigO exF n.begun) (qz f5 hg)) ?_;simp only[exL,exC];refine Ks ?_;intros;refine GO.ev (Ev.a8 rfl rfl) ae ?_;rw[hg];dsimp only[Option.map,Option.getD,Option.isSome,cJ];refine Ks ?_;intros;refine GO.ent (L':=obj nb tNd (ndC lb sh shs n.cnt n.hl n.mb n.mp n.mr)::exL x (bigO exF (gera n.begun k)::gmap kvI cJ n.mb n.begun::gmap kvI cL n.mp n.parts::bigO ptF n.parts::gmap kvP bT n.mr (tfK n.recv)::aS lb S1::osl bC 3 tMs rad rcap ms::allP msP ms::osl (encZ .i64) 1 tInt kad kcap ks::L)) (by simp only[ndC,exL,exC];exact ah) ?_;refine GO.ca (Et nb lb sh shs n.cnt n.hl n.mb n.mp n.mr k hI x hw.ok tick) ?_;rintro _ _⟨g4,c3,us,y,rfl,i7,g1,rfl⟩;have e7:us.map (·.m)=(ga sh k x.m tick).1:=congrArg (·.1) g1;have e8:y.m=(ga sh k x.m tick).2:=congrArg (·.2) g1;let n1:NdV:={ n with begun:=gins n.begun k y }
   have f4:n1.m={ n.m with begun:=gins n.m.begun k (ga sh k x.m tick).2 }:=by
    rw[←e8];exact qY n k y
   rw[←f4] at hin hu;rw[←e7] at hm b3 hu;rw[an] at b3;have i4:pot n1.m=pot n.m:=by rw[f4];rfl
   have hz:fS sh (us.map (·.m))=0:=jZ fun m d6=>(hm m d6).2.2;rw[hu] at i5 ⊢;refine Ks ?_;intros;refine GO.ent (L':=osl bC 3 tMs g4 c3 us::allP msP us::ndL nb lb sh shs n1 (aS lb S1::(osl bC 3 tMs rad rcap ms::allP msP ms::osl (encZ .i64) 1 tInt kad kcap ks::L))) ?_ ?_
   ·refine Ent.trans ?_ (Ent.a8 (Ent.a8 (kw f5 hg y i7)));simp only[exL,ndC];exact ah
   refine GO.ca (nc nb lb sh shs n1 S1 cat 2000 (aq _) tick g4 c3 us (fun m d6=>(hm _ (alStd0List_mem_map_of_mem d6)).1) hin ab ab ab) ?_;rintro _ _⟨i9,g6,ds,n2,rfl,f2,b6,rfl⟩
   have j4:ds.length≤330000:=by
    have e:=congrArg List.length f2;rw[an] at e;omega
   simp only[ndL,ndC];refine Ks ?_;intros;refine GO.ef (Ef.d7 (enc:=bC) (ys:=ds) rfl rfl rfl rfl rfl (fun e _=>eJ e) ab ab) ae ?_;rintro _ _⟨b8,a9,rfl,rfl⟩;refine Ks ?_;intros;refine⟨(n2,b8,a9,ms++ds),⟨b6,by rw[aJ,f2]⟩,aC,?_⟩;refine(Ent.at (A:=allP msP ds) (Ent.refl _)).trans ?_;refine(Ent.at (A:=allP msP ms) (Ent.refl _)).trans ?_;refine(Ent.d7 (f:=msP) fq).trans ?_;simp only[ndL,ndC];exact ah
 rintro⟨n2,b1,a0,b4⟩ ⟨b6,a6⟩;dsimp only at b6 a6 ⊢
 have h9:b4.length≤600330000:=by
  have e1:=congrArg List.length a6;have e2:=hU.len;rw[an,aj,an] at e1;omega
 generalize advU sh tick k n.m S1=U at *;have d3:NdA cat sh shs n2.m U.2.2:=by rw[b6];exact hU.nd
 have j2:kOf U.2.2+pot n2.m≤2000:=by rw[b6];exact hU.bd
 rw[←b6] at a1;generalize hS2:U.2.2=S2 at *;rw[c0] at a6;simp only[ndL,ndC];refine G.c9 (fi (b:=n2.mp)) fun d0=>?_;cases hg:List.lookup k n2.parts with
 | none =>
  have hp:advP sh tick k n2.m S2=([],n2.m,S2):=by
   unfold advP;rw[fK,hg];rfl
  rw[hp] at a1;refine Ks ?_;intros;refine GO.ev (Ev.a8 rfl rfl) ae ?_;rw[hg];dsimp only[Option.map,Option.getD,Option.isSome];refine Ks ?_;intros;refine⟨(i+1,n2,b1,a0,b4),⟨by dsimp only;omega,by rw[a1],by rw[a1];dsimp only;rw[aH];exact a6⟩,by dsimp only;omega,?_,?_⟩
  ·dsimp only;rw[bh i];exact aC
  ·rw[a1];simp only[ndL,ndC];exact ah
 | some p =>
  have hl:glk n2.m.parts k=some p.m:=by rw[fK,hg];rfl
  have hw:=d3.ndw.pt _ (cu hl);have c5:okId shs k:=hw.id;have f0:I64 k:=c5.i64 a3;have d1:=d3.hin.pts _ (cu hl);have i3:=qU (cu hl);dsimp only at d1 i3 hw;refine G.ent (Ent.at (A:=bigO ptF n2.parts) (mU d0 hg)) ?_;have b5:=jj (nb:=nb) (lb:=lb) (sh:=sh) (shs:=shs) (L:=aS lb S2::L) d0 hg p rfl;rw[jz hg d0] at b5;simp only[ndL,ndC,ptL,ptC] at b5 ⊢;by_cases c1:p.state=1∨p.state=2
  case neg =>
   have h1:¬p.state=1:=fun q=>c1 (.inl q);have h2:¬p.state=2:=fun q=>c1 (.inr q)
   have hp:advP sh tick k n2.m S2=([],n2.m,S2):=by
    unfold advP;rw[hl];exact if_neg c1
   rw[hp] at a1;refine Ks ?_;intros;refine GO.ev (Ev.a8 rfl rfl) ae ?_;rw[hg];dsimp only[Option.map,Option.getD,Option.isSome,cL];refine Ks ?_;intros;refine⟨(i+1,n2,b1,a0,b4),⟨by dsimp only;omega,by rw[a1],by rw[a1];dsimp only;rw[aH];exact a6⟩,by dsimp only;omega,?_,?_⟩
   ·dsimp only;rw[bh i];exact aC
   ·rw[a1];dsimp only;refine Ent.trans ?_ (Ent.a8 (Ent.a8 (Ent.a8 b5)));exact ah
  have hp:advP sh tick k n2.m S2=((runL (advW sh k p.state p.hold tick) p.m.legs S2).1,{ n2.m with parts:=gins n2.m.parts k ⟨p.state,p.hold,(runL (advW sh k p.state p.hold tick) p.m.legs S2).2.1⟩ },(runL (advW sh k p.state p.hold tick) p.m.legs S2).2.2):=by
   unfold advP;rw[hl];exact if_pos c1
  rw[hp] at a1;refine Ks ?_;intros;refine GO.ev (Ev.a8 rfl rfl) ae ?_;rw[hg];dsimp only[Option.map,Option.getD,Option.isSome,cL];repeat first|refine G.sm 9 ?_|refine dq ?_|intro
  refine G.c7 (α:=Unit) (fun _=>True) (fun _=>[(0,ax nb),(1,ac tick),(5,ag b1 b4.length a0),(7,ac k),(10,.pointer (some ⟨p.b,0,none⟩)),(14,ag kad ks.length kcap),(15,ac (ks.length:Int)),(16,ac (i:Int))]) (fun _=>obj p.b tPt [ac p.state,ac p.hold,ag p.lad p.legs.length p.lcap]::osl dH 8 tOw p.lad p.lcap p.legs::allP owP p.legs::osl bC 3 tMs b1 a0 b4::allP msP b4::aS lb S2::obj nb tNd [ax lb,ac sh,ac shs,ac n2.cnt,ac n2.hl,.map (some n2.mb),.map (some n2.mp),.map (some n2.mr)]::osl (encZ .i64) 1 tInt kad kcap ks::bigO ptF (gera n2.parts k)::gmap kvI cJ n2.mb n2.begun::bigO exF n2.begun::gmap kvI cL n2.mp n2.parts::gmap kvP bT n2.mr (tfK n2.recv)::L) ?_ ?_
  ·rcases c1 with h1|h1
   ·refine Ks ?_;intros;exact⟨(),trivial,aC,by exact ah⟩
   ·have h2:¬p.state=1:=ab;refine Ks ?_;intros;exact⟨(),trivial,aC,by exact ah⟩
  rintro _ _;have i2:p.m.legs.length=p.legs.length:=an _;have j1:=d1.legs;have e6:=fun j=>ul (pst:=p.state) (hold:=p.hold) (tick:=tick) hs a3 c5 (os:=p.m.legs.take j) (S:=S2) (c:=cat) d3.hin.led (by have:=jV p.m.legs j;omega) (fun o ho=>⟨d1.ow o (bF ho),hw.ts o (bF ho)⟩);refine Ks ?_;intros;refine G.loop (α:=Nat×List OwV×OA×Nat×List MsV) (fun g=>∃mm,RuIn (advW sh k p.state p.hold tick) p.m.legs S2 g.1 g.2.1 mm∧g.2.2.2.2.map (·.m)=b4.map (·.m)++mm) (fun g=>[(0,ax nb),(1,ac tick),(5,ag g.2.2.1 g.2.2.2.2.length g.2.2.2.1),(7,ac k),(10,.pointer (some ⟨p.b,0,none⟩)),(14,ag kad ks.length kcap),(15,ac (ks.length:Int)),(16,ac (i:Int)),(69,ac (p.legs.length:Int)),(70,ac (g.1:Int))]) (fun g=>obj p.b tPt [ac p.state,ac p.hold,ag p.lad g.2.1.length p.lcap]::osl dH 8 tOw p.lad p.lcap g.2.1::allP owP g.2.1::osl bC 3 tMs g.2.2.1 g.2.2.2.1 g.2.2.2.2::allP msP g.2.2.2.2::aS lb (runL (advW sh k p.state p.hold tick) (p.m.legs.take g.1) S2).2.2::obj nb tNd [ax lb,ac sh,ac shs,ac n2.cnt,ac n2.hl,.map (some n2.mb),.map (some n2.mp),.map (some n2.mr)]::osl (encZ .i64) 1 tInt kad kcap ks::bigO ptF (gera n2.parts k)::gmap kvI cJ n2.mb n2.begun::bigO exF n2.begun::gmap kvI cL n2.mp n2.parts::gmap kvP bT n2.mr (tfK n2.recv)::L) (fun g=>p.legs.length - g.1) (0,p.legs,b1,a0,b4) ⟨[],RuIn.zero,(aH _).symm⟩ aC ?_ ?_
  ·dsimp only;rw[aR];simp only[runL];exact ah
  rintro⟨j,ys,b2,a5,b0⟩ ⟨mm,hI,a7⟩;dsimp only at hI a7 ⊢;have k1:=hI.le;have k5:=hI.len;obtain⟨r1,r2,r3,r4,r5,r6⟩:=e6 j
  have i0:b0.length≤600330100:=by
   have e1:=congrArg List.length a7;have e2:=hI.ms;rw[an,aj,an,e2] at e1;rw[aK] at r6;omega
  by_cases h8:j<p.legs.length
  case neg =>
   have d2:p.m.legs.take j=p.m.legs:=aD ab;have e5:=hI.ow;have f3:=hI.ms;rw[d2] at e5 f3;rw[d2];rw[bQ ab,aH] at e5;let n3:NdV:={ n2 with parts:=gins n2.parts k (⟨p.b,p.state,p.hold,ys,p.lad,p.lcap⟩:PtV) }
   have i1:n3.m={ n2.m with parts:=gins n2.m.parts k ⟨p.state,p.hold,(runL (advW sh k p.state p.hold tick) p.m.legs S2).2.1⟩ }:=by
    refine(nx n2 k (⟨p.b,p.state,p.hold,ys,p.lad,p.lcap⟩:PtV)).trans ?_;rw[←e5];rfl
   refine Ks ?_;intros;refine⟨(i+1,n3,b2,a5,b0),⟨by dsimp only;omega,by rw[a1];exact i1,?_⟩,by dsimp only;omega,?_,?_⟩
   ·dsimp only;rw[a1,a7,a6,f3,aB]
   ·dsimp only;rw[bh i];exact aC
   ·rw[a1];dsimp only;refine Ent.trans ?_ (Ent.a8 (Ent.a8 (Ent.a8 (jj d0 hg (⟨p.b,p.state,p.hold,ys,p.lad,p.lcap⟩:PtV) rfl))));simp only[ptL,ptC,ndC];exact ah
  have a2:j<p.m.legs.length:=ab;have b9:(j:Int).toNat=j:=ab;have f1:=hI.at a2;have e0:ys[j]!∈ys:=aV ab;have g0:OwOk ys[j]!.m:=by rw[f1];exact d1.ow _ (aV a2)
  have a4:=pT (advW sh k p.state p.hold tick) p.m.legs S2 a2;generalize hR:runL (advW sh k p.state p.hold tick) (p.m.legs.take j) S2=R at *
  have e1:de (p.m.legs.take (j+1))=de (p.m.legs.take j)+fL p.m.legs[j]!:=by
   unfold de;rw[az a2,aJ,ec,getElem!_of a2];simp only[aF,bG,cq,List.sum_nil,eA]
  have e2:=jV p.m.legs (j+1);have f6:∀{o' : OwV} {m2:List MsM},m2=(advW sh k p.state p.hold tick ys[j]!.m R.2.2).1→o'.m=(advW sh k p.state p.hold tick ys[j]!.m R.2.2).2.1→RuIn (advW sh k p.state p.hold tick) p.m.legs S2 (j+1) (ys.set j o') (mm++m2):=fun h1 h2=>hI.next a2 (by rw[hR];exact h1) (by rw[hR];exact h2);have c6:∀{m2:List MsM},m2=(advW sh k p.state p.hold tick ys[j]!.m R.2.2).1→ys[j]!.m=(advW sh k p.state p.hold tick ys[j]!.m R.2.2).2.1→RuIn (advW sh k p.state p.hold tick) p.m.legs S2 (j+1) ys (mm++m2):=fun h1 h2=>hI.keep a2 (by rw[hR];exact h1) (by rw[hR];exact h2);rw[←f1] at a4 e1;refine G.c9 (oU (ad:=p.lad) (xs:=ys) ab) fun e9=>?_;by_cases h0:ys[j]!.state=0
  ·have c2:advW sh k p.state p.hold tick ys[j]!.m R.2.2=ee sh k p.state p.hold tick ys[j]!.m R.2.2:=if_neg (ab:¬ys[j]!.state=1)
   have h6:ys[j]!.state=0→kOf R.2.2+ys[j]!.leg.m.am.length≤2000:=fun q=>by
    have e3:fL ys[j]!.m=ys[j]!.leg.m.am.length:=if_pos q;omega
   rw[c2] at a4 f6;refine Ks ?_;intros;rw[b9];refine Ks ?_;intros;rw[b9];refine GO.ent (L':=obj nb tNd (ndC lb sh shs n2.cnt n2.hl n2.mb n2.mp n2.mr)::obj p.b tPt (ptC ⟨p.b,p.state,p.hold,ys,p.lad,p.lcap⟩)::osl dH 8 tOw p.lad p.lcap ys::allP owP ys::aS lb R.2.2::(osl bC 3 tMs b2 a5 b0::allP msP b0::osl (encZ .i64) 1 tInt kad kcap ks::bigO ptF (gera n2.parts k)::gmap kvI cJ n2.mb n2.begun::bigO exF n2.begun::gmap kvI cL n2.mp n2.parts::gmap kvP bT n2.mr (tfK n2.recv)::L)) (by simp only[ndC,ptC];exact ah) ?_;refine GO.ca (mN nb lb sh shs n2.cnt n2.hl n2.mb n2.mp n2.mr cat _ R.2.2 r1 k f0 p.b p.state p.hold p.lad p.lcap e9 ys j ab g0 tick h6) ?_;rintro _ _⟨i8,g5,b7,o2,rfl,g3,rfl⟩;have g2:b7.map (·.m)=(ee sh k p.state p.hold tick ys[j]!.m R.2.2).1:=congrArg (·.1) g3;have i6:o2.m=(ee sh k p.state p.hold tick ys[j]!.m R.2.2).2.1:=congrArg (·.2.1) g3
   have k2:b7.length≤1:=by
    have h1:=congrArg List.length g2;rw[an] at h1;rw[h1];exact lO
   simp only[ndC,ptC];refine Ks ?_;intros;refine GO.ef (Ef.d7 (enc:=bC) (ys:=b7) rfl rfl rfl rfl rfl (fun e _=>eJ e) ab ab) ae ?_;rintro _ _⟨b8,a9,rfl,rfl⟩;refine Ks ?_;intros;refine⟨(j+1,ys.set j o2,b8,a9,b0++b7),⟨mm++b7.map (·.m),f6 g2 i6,by rw[aJ,a7,aB]⟩,by dsimp only;omega,?_,?_⟩
   ·dsimp only;rw[bh j];exact aC
   ·dsimp only;rw[a4,bH];dsimp only;refine(Ent.at (A:=allP msP b7) (Ent.refl _)).trans ?_;refine(Ent.at (A:=allP msP b0) (Ent.refl _)).trans ?_;refine(Ent.d7 (f:=msP) fq).trans ?_;exact ah
  by_cases h1:ys[j]!.state=1
  ·have c2:advW sh k p.state p.hold tick ys[j]!.m R.2.2=([iH sh k ys[j]!.m],ys[j]!.m,R.2.2):=if_pos (show ys[j]!.m.state=1 from h1);rw[c2] at a4 c6;refine Ks ?_;intros;rw[b9];refine Ks ?_;intros;rw[b9];refine GO.ent (Ent.at (A:=allP owP ys) (Ent.c9 (f:=owP) e0)) ?_;refine GO.ent (L':=obj nb tNd (ndC lb sh shs n2.cnt n2.hl n2.mb n2.mp n2.mr)::owP ys[j]!::(obj p.b tPt [ac p.state,ac p.hold,ag p.lad ys.length p.lcap]::osl dH 8 tOw p.lad p.lcap ys::allP owP ys::aS lb R.2.2::osl bC 3 tMs b2 a5 b0::allP msP b0::osl (encZ .i64) 1 tInt kad kcap ks::bigO ptF (gera n2.parts k)::gmap kvI cJ n2.mb n2.begun::bigO exF n2.begun::gmap kvI cL n2.mp n2.parts::gmap kvP bT n2.mr (tfK n2.recv)::L)) (by simp only[ndC];exact ah) ?_;refine GO.ca (pB nb lb sh shs n2.cnt n2.hl n2.mb n2.mp n2.mr k f0 p.lad e9 ys j ab ys[j]! rfl g0) ?_;rintro _ _⟨x,rfl,hx,rfl⟩;simp only[ndC];refine Ks ?_;intros;refine GO.ef (Ef.a8 (enc:=bC) (e:=x) rfl rfl rfl rfl rfl aQ (eJ _) ab ab) ae ?_;rintro _ _⟨b8,a9,rfl,rfl⟩;refine Ks ?_;intros;refine⟨(j+1,ys,b8,a9,b0++[x]),⟨mm++[iH sh k ys[j]!.m],c6 rfl rfl,by rw[aJ,a7,aB,aF,bG,hx]⟩,by dsimp only;omega,?_,?_⟩
   ·dsimp only;rw[bh j];exact aC
   ·dsimp only;rw[a4];dsimp only;refine(Ent.at (A:=msP x) (Ent.d8 (f:=msP) fq)).trans ?_;refine(Ent.at (A:=allP msP [x]) (Ent.refl _)).trans ?_;refine(Ent.at (A:=allP msP b0) (Ent.refl _)).trans ?_;refine(Ent.d7 (f:=msP) fq).trans ?_;exact ah
  have c2:advW sh k p.state p.hold tick ys[j]!.m R.2.2=([],ys[j]!.m,R.2.2):=by
   unfold advW;rw[if_neg (show ¬ys[j]!.m.state=1 from h1),jP h0]
  rw[c2] at a4 c6;refine Ks ?_;intros;rw[b9];refine Ks ?_;intros;refine⟨(j+1,ys,b2,a5,b0),⟨mm++[],c6 rfl rfl,by rw[aH];exact a7⟩,by dsimp only;omega,?_,?_⟩
  ·dsimp only;rw[bh j];exact aC
  ·dsimp only;rw[a4];exact ah
end
section
open Go.V
abbrev ki:Nat:=65
def amIn(x:Int×Int):Prop:=(0≤x.1∧x.1≤3)∧1≤x.2∧x.2≤12
structure RLegB (n:Int) (l:LegM):Prop where
 sh:0≤l.sh∧l.sh<n
 fr : -1≤l.fr∧l.fr≤3
 ts:0≤l.ts∧l.ts≤n
 to:1≤l.to∧l.to≤4
 len:1≤l.am.length∧l.am.length≤3
 am:∀x∈l.am,amIn x
attribute [local irreducible] G GO GP GPW GPK GF GE Ev Ef EfR Ent CB GB V.Enters bX delM
def nh{L:LH}(n:Int)(hn:0≤n∧n<100000) :
  Tri Tryz.prog 68 #[ac n] L (fun v L'=>∃ad cap am,v=ag ad am.length cap∧((1≤am.length∧am.length≤3)∧∀x∈am,amIn x)∧L' = osl cy 2 tAm ad cap am::L):=by
 have h1:(0≤n % 4∧n % 4≤3)∧(0≤n / 4 % 4∧n / 4 % 4≤3)∧(0≤n / 16 % 12∧n / 16 % 12≤11)∧(0≤n / 192 % 6∧n / 192 % 6≤5):=ab;obtain⟨g1,g2,g3,g4⟩:=h1;refine Tri.bd ?_;repeat first|refine G.sm 4 ?_|refine dq ?_|intro
 rename_i b5;generalize n % 4=a at *;generalize n / 4 % 4=b at *;generalize n / 16 % 12=c at *;refine G.ent (L':=osl cy 2 tAm (some ⟨b5,0,none⟩) 1 [(a,1+c)]::L) ((Ent.at (A:=obj b5 tAm [ac a,ac (1+c)]) (Ent.f7 (enc:=cy) (sz:=2) (xs:=[(a,1+c)]) (n:=1) rfl rfl (by intro x hx;rfl) ae)).trans ah) ?_;refine G.c7 (α:=OA×Nat×List (Int×Int)) (fun g=>(1≤g.2.2.length∧g.2.2.length≤2)∧∀x∈g.2.2,amIn x) (fun g=>[(0,ac n),(3,ac a),(4,ac b),(5,ag g.1 g.2.2.length g.2.1)]) (fun g=>osl cy 2 tAm g.1 g.2.1 g.2.2::L) ?_ ?_
 ·have a6:([(a,1+c)]:List (Int×Int)).length=1:=rfl;have a4:∀x∈[(a,1+c)],amIn x:=fun x hx=>by rw[List.mem_singleton.1 hx];unfold amIn;dsimp only;omega
  by_cases hb:b>a
  ·refine Ks ?_;intros;refine GO.ef (Ef.a8 (enc:=cy) (e:=(b,1+n / 192 % 6)) rfl rfl rfl rfl rfl aQ (kI _) ab ab) ae ?_;rintro _ _⟨a2,a0,rfl,rfl⟩;refine Ks ?_;intros;refine⟨(a2,a0,[(a,1+c)]++[(b,1+n / 192 % 6)]),⟨⟨by simp,by simp⟩,fun x hx=>?_⟩,aC,by exact ah⟩;rcases List.mem_append.1 hx with hx|hx
   ·exact a4 x hx
   ·rw[List.mem_singleton.1 hx];unfold amIn;dsimp only;omega
  ·refine Ks ?_;intros;exact⟨(some ⟨b5,0,none⟩,1,[(a,1+c)]),⟨⟨aq _,by simp⟩,a4⟩,aC,by exact ah⟩
 rintro⟨ad,cap,am⟩ ⟨a3,a1⟩;dsimp only at a3 a1 ⊢;by_cases a5:n % 97=0
 ·refine Ks ?_;intros;refine GO.ef (Ef.a8 (enc:=cy) (e:=(a,1)) rfl rfl rfl rfl rfl aQ (kI _) ab ab) ae ?_;rintro _ _⟨a2,a0,rfl,rfl⟩;refine Ks ?_;intros;refine KX.a8 aA ah ⟨a2,a0,am++[(a,1)],rfl,⟨by simp;omega,fun x hx=>?_⟩,rfl⟩;rcases List.mem_append.1 hx with hx|hx
  ·exact a1 x hx
  ·rw[List.mem_singleton.1 hx];unfold amIn;dsimp only;omega
 ·refine Ks ?_;intros;exact KX.a8 aA (Ent.refl _) ⟨ad,cap,am,rfl,⟨ab,a1⟩,rfl⟩
end
section
open Go.V
attribute [local irreducible] G GO GP GPW GPK GF GE Ev Ef EfR Ent CB GB V.Enters bX delM
def oH{L:LH}(n:Int)(hn:1≤n∧n≤12)(ad:OA)(c:Nat)(l:List Int)[hrd:Rds L ad Int (encZ .i64) 1 l](hx:∀x∈l,I64 x)(at_:Int)(b8:0≤at_∧at_≤1000000) :
  Tri Tryz.prog 26 #[ac n,ag ad l.length c,ac at_] L (fun v L'=>∃b1 a5 ls,v=ag b1 ls.length a5∧((1≤ls.length∧ls.length≤4)∧∀x∈ls,RLegB n x.m)∧L' = osl bA 5 ki b1 a5 ls::allP legP ls::L):=by
 refine Tri.bd ?_;refine Ks ?_;intros;refine G.loop (α:=Nat×OA×Nat×List LegV) (fun g=>(g.1≤4∧g.2.2.2.length=g.1)∧∀x∈g.2.2.2,RLegB n x.m) (fun g=>[(0,ac n),(1,ag ad l.length c),(2,ac at_),(7,ag g.2.1 g.2.2.2.length g.2.2.1),(8,ac (g.1:Int))]) (fun g=>osl bA 5 ki g.2.1 g.2.2.1 g.2.2.2::allP legP g.2.2.2::L) (fun g=>4 - g.1) (0,none,0,[]) ⟨⟨aw _,rfl⟩,fun x h=>absurd h ay⟩ aC ?_ ?_
 ·dsimp only;refine(Ent.c7 legP).trans ((Ent.c8 bA 5 ki).trans ?_);exact ah
 rintro⟨i,a4,a2,zs⟩ ⟨⟨hi,b2⟩,hz⟩;dsimp only at hi b2 hz ⊢;refine Ks ?_;intros;refine GO.ca (ku ad l.length c l rfl hx at_ 4 ae) ?_;rintro _ _⟨k,rfl,hk,rfl⟩;by_cases b9:(i:Int)≤k
 case neg =>
  refine Ks ?_;intros;refine KX.a8 aA (Ent.refl _) ⟨a4,a2,zs,rfl,⟨⟨ab,ab⟩,hz⟩,rfl⟩
 refine Ks ?_;intros;refine GO.ca (ku ad l.length c l rfl hx (at_+3*(i:Int)+1) 100000 ae) ?_;rintro _ _⟨p,rfl,hp,rfl⟩;refine Ks ?_;intros;refine GO.ca (ku ad l.length c l rfl hx (at_+3*(i:Int)+2) 100000 ae) ?_;rintro _ _⟨m,rfl,hm,rfl⟩;have g1:=ed p (ab:n≠0);have g2:=dC p (ab:0<n);have g3:=ed m (ab:n≠0);have g4:=dC m (ab:0<n);have g5:0≤p / 16 % 3∧p / 16 % 3≤2:=ab;have g6:0≤m / 16 % 4∧m / 16 % 4≤3:=ab;repeat first|refine G.sn 7 ?_|refine dq ?_|intro
 refine G.c7 (α:=Nat×OA×Nat×List (Int×Int)) (fun g=>(1≤g.2.2.2.length∧g.2.2.2.length≤3)∧∀x∈g.2.2.2,amIn x) (fun g=>[(0,ac n),(1,ag ad l.length c),(2,ac at_),(7,ag a4 zs.length a2),(8,ac (i:Int)),(9,ac p),(10,ac m),(11,.pointer (some ⟨g.1,0,none⟩))]) (fun g=>obj g.1 ki [ac (p % n),ac (1+p / 16 % 3),ac (m % n),ac (1+m / 16 % 4),ag g.2.1 g.2.2.2.length g.2.2.1]::osl cy 2 tAm g.2.1 g.2.2.1 g.2.2.2::osl bA 5 ki a4 a2 zs::allP legP zs::L) ?_ ?_
 ·refine G.d9 mixed krStd0 ?_;refine GF.evP (i:=0) rfl krStd0 (Ev.move rfl) ae ?_;refine GF.evP (i:=1) rfl krStd0 (Ev.move rfl) ae ?_;refine GF.evP (i:=2) rfl krStd0 (Ev.rem rfl rfl ab ab) ae ?_;refine GF.evP (i:=3) rfl krStd0 (Ev.move rfl) ae ?_;refine GF.evP (i:=4) rfl krStd0 (Ev.quo rfl rfl ab ab ab) ae ?_;refine GF.evP (i:=5) rfl krStd0 (Ev.rem rfl rfl ab ab) ae ?_;refine GF.evP (i:=6) rfl krStd0 (Ev.add rfl rfl ab ab) ae ?_;refine GF.evP (i:=7) rfl krStd0 (Ev.move rfl) ae ?_;refine GF.evP (i:=8) rfl krStd0 (Ev.move rfl) ae ?_;refine GF.evP (i:=9) rfl krStd0 (Ev.rem rfl rfl ab ab) ae ?_;refine GF.evP (i:=10) rfl krStd0 (Ev.move rfl) ae ?_;refine GF.evP (i:=11) rfl krStd0 (Ev.quo rfl rfl ab ab ab) ae ?_;refine GF.evP (i:=12) rfl krStd0 (Ev.rem rfl rfl ab ab) ae ?_;refine GF.evP (i:=13) rfl krStd0 (Ev.add rfl rfl ab ab) ae ?_;refine GF.evP (i:=14) rfl krStd0 (Ev.move rfl) ae ?_;refine GF.evP (i:=15) rfl krStd0 (Ev.move rfl) ae ?_;refine GF.evP (i:=16) rfl krStd0 (Ev.move rfl) ae ?_;refine GF.evP (i:=17) rfl krStd0 (Ev.mul rfl rfl ab ab) ae ?_;refine GF.evP (i:=18) rfl krStd0 (Ev.add rfl rfl ab ab) ae ?_;refine GF.evP (i:=19) rfl krStd0 (Ev.add rfl rfl ab ab) ae ?_;refine GF.a8 20 23 krStd0 ?_ ?_
  ·refine GE.ef rfl (Ef.d9 (ku ad l.length c l rfl hx (at_+3*(i:Int)+3) 100000 ae) rfl) ae ?_;rintro _ _⟨q,rfl,hq,rfl⟩;refine⟨tC,?_⟩;refine GF.a8 21 23 krStd0 ?_ ?_
   ·refine GE.ef rfl (Ef.d9 (nh q hq) rfl) ae ?_;rintro _ _⟨a1,a0,am,rfl,a6,rfl⟩;refine⟨tC,?_⟩;refine GF.plan [.ev 22,.ef 23,.ef 24] krStd0 rfl ?_;refine Ks ?_;intros;rename_i a3;exact⟨(a3,a1,a0,am),a6,aC,by exact ah⟩
   ·refine GE.ef rfl Ef.alloc ae ?_;rintro _ _⟨a3,rfl,rfl⟩;refine⟨tC,?_⟩;refine GF.plan [.ef 21,.ev 22,.ef 24] krStd0 rfl ?_;refine Ks ?_;intros;refine GPW.ca (nh q hq) ?_;rintro _ _⟨a1,a0,am,rfl,a6,rfl⟩;refine Ks ?_;intros;exact⟨(a3,a1,a0,am),a6,aC,by exact ah⟩
  ·refine GE.ef rfl Ef.alloc ae ?_;rintro _ _⟨a3,rfl,rfl⟩;refine⟨tC,?_⟩;refine GF.plan [.ef 20,.ef 21,.ev 22,.ef 24] krStd0 rfl ?_;refine Ks ?_;intros;refine GPW.ca (ku ad l.length c l rfl hx (at_+3*(i:Int)+3) 100000 ae) ?_;rintro _ _⟨q,rfl,hq,rfl⟩;refine Ks ?_;intros;refine GPW.ca (nh q hq) ?_;rintro _ _⟨a1,a0,am,rfl,a6,rfl⟩;refine Ks ?_;intros;exact⟨(a3,a1,a0,am),a6,aC,by exact ah⟩
 rintro⟨a3,a1,a0,am⟩ ⟨a7,a9⟩;dsimp only at a7 a9 ⊢;refine G.ent (Ent.at (A:=osl cy 2 tAm a1 a0 am) Ent.freezeSl) ?_;refine G.c7 (α:=Int) (fun fr=>-1≤fr∧fr≤3) (fun fr=>[(0,ac n),(1,ag ad l.length c),(2,ac at_),(7,ag a4 zs.length a2),(8,ac (i:Int)),(9,ac p),(10,ac m),(11,ax a3)]) (fun fr=>obj a3 ki [ac (p % n),ac fr,ac (m % n),ac (1+m / 16 % 4),ag a1 am.length a0]::isl cy 2 a1 am::osl bA 5 ki a4 a2 zs::allP legP zs::L) ?_ ?_
 ·by_cases b7:p % 89=0
  ·have g7:0≤p / 89 % 3∧p / 89 % 3≤2:=ab;refine Ks ?_;intros;exact⟨p / 89 % 3 - 1,ab,aC,by exact ah⟩
  ·refine Ks ?_;intros;exact⟨1+p / 16 % 3,ab,aC,by exact ah⟩
 rintro fr b4;refine G.c7 (α:=Int) (fun ts=>0≤ts∧ts≤n) (fun ts=>[(0,ac n),(1,ag ad l.length c),(2,ac at_),(7,ag a4 zs.length a2),(8,ac (i:Int)),(9,ac p),(10,ac m),(11,ax a3)]) (fun ts=>obj a3 ki [ac (p % n),ac fr,ac ts,ac (1+m / 16 % 4),ag a1 am.length a0]::isl cy 2 a1 am::osl bA 5 ki a4 a2 zs::allP legP zs::L) ?_ ?_
 ·by_cases b6:m % 83=0
  ·refine Ks ?_;intros;exact⟨n,ab,aC,by exact ah⟩
  ·refine Ks ?_;intros;exact⟨m % n,ab,aC,by exact ah⟩
 rintro ts b5;refine Ks ?_;intros;refine GO.ef (Ef.a8 (enc:=bA) (e:=(⟨⟨p % n,fr,ts,1+m / 16 % 4,am⟩,a1,a0⟩:LegV)) rfl rfl rfl rfl rfl aQ (ld _) ab ab) ae ?_;rintro _ _⟨b3,b0,rfl,rfl⟩;refine Ks ?_;intros;refine⟨(i+1,b3,b0,zs++[⟨⟨p % n,fr,ts,1+m / 16 % 4,am⟩,a1,a0⟩]),⟨⟨by dsimp only;omega,by simp[b2]⟩,fun x hx=>?_⟩,by dsimp only;omega,?_,?_⟩
 ·rcases List.mem_append.1 hx with hx|hx
  ·exact hz x hx
  ·rw[List.mem_singleton.1 hx];exact⟨⟨g1,g2⟩,b4,b5,by dsimp only;omega,a7,a9⟩
 ·dsimp only;rw[bh i];exact aC
 ·dsimp only;refine(Ent.at (A:=isl cy 2 a1 am) (Ent.d8 (f:=legP) (x:=(⟨⟨p % n,fr,ts,1+m / 16 % 4,am⟩,a1,a0⟩:LegV)) fC)).trans ?_;refine(Ent.at (A:=allP legP [⟨⟨p % n,fr,ts,1+m / 16 % 4,am⟩,a1,a0⟩]) (Ent.refl _)).trans ?_;refine(Ent.at (A:=allP legP zs) (Ent.refl _)).trans ?_;refine(Ent.d7 (f:=legP) fC).trans ?_;exact ah
