/- Lemmas. -/
import Derived.Test.YtlgpgjdggilkgaaGreatDoorEcbq
set_option linter.all false
set_option maxHeartbeats 16000000
namespace Go.Proofs.YtlgpgjdggilkgaaGreatDoor
section
open Go.V
abbrev tLp:Nat:=37
abbrev tNq:Nat:=62
def Fs{s:ByteArray}(h:(1≤s.size∧s.size≤16)∧gZ s 0=3∧∀i:Nat,i<s.size→gZ s i=3∨gZ s i=4∨gZ s i=5):IsWord s:=⟨h.1,h.2.1,h.2.2⟩
def AW:CatGood cat22:=by
  refine⟨by decide,by decide,by decide,by decide,?_,?_,?_,?_,by decide,by decide,by decide,by decide⟩
  · intro x hx
    simp only[cat22,it22,dJ,ay,or_false] at hx
    rcases hx with rfl|rfl|rfl|rfl<;>exact⟨Fs (by decide +kernel),by decide,by decide⟩
  · intro r hr;cases hr
  · intro r hr;cases hr
  · intro r hr;cases hr
def nd0:NdM:=⟨0,0,[],[],[]⟩
structure SdI (l:List Int) (i:Nat) (s:SdV):Prop where
  sh:s.sh=(i:Int)
  n:s.n.m=nd0
  sp:SpI i 8 s.S
  z:l=[]→s.S=led0 i cat22
structure StartI (n:Int) (l:List Int) (W:WdV):Prop where
  len:(W.sds.length:Int)=n
  sd:∀i:Nat,i<W.sds.length→SdI l i W.sds[i]!
  ms:W.msl=[]
  tick:W.tick=0
  ids:W.ids=[]
def wc{sh shs:Int}{i:Nat}{S:LedM}(h:SpI sh i S):NdA cat22 sh shs nd0 S :=
  ⟨⟨h.led,⟨bq 0,by show(0:Int)≤kOf S;omega⟩,dY,fun p hp=>absurd hp ay,fun p hp=>absurd hp ay⟩,
   ⟨bq 0,dY,dY,fun p hp=>absurd hp ay,fun p hp=>absurd hp ay,fun p hp=>absurd hp ay⟩,
   fun k x hx=>by cases hx⟩
def StartI.wd{n:Int}{l:List Int}{W:WdV}(h:StartI n l W)(hn:1≤n∧n≤12):WdI n 0 8 0 0 W.m:=by
  refine⟨hn,by simp only[WdV.m,an];exact h.len,fun i hi=>?_,fun m hm=>?_,?_,?_,?_⟩
  · simp only[WdV.m,an] at hi
    have e:W.m.nds[i]! = W.sds[i]!.m:=gw (f:=SdV.m) hi
    have hs:=h.sd i hi
    rw[e]
    refine⟨?_,?_,?_⟩
    · show NdA cat22 i n W.sds[i]!.n.m W.sds[i]!.S
      rw[hs.n]
      exact wc hs.sp
    · show kOf W.sds[i]!.S+pot W.sds[i]!.n.m≤8
      rw[hs.n]
      have:=hs.sp.k
      show kOf W.sds[i]!.S+0≤8
      omega
    · show W.sds[i]!.n.m.cnt≤0
      rw[hs.n]
      exact bq 0
  · simp only[WdV.m,h.ms] at hm
    cases hm
  · simp only[WdV.m,h.ms]
    exact aq _
  · show 0≤W.tick∧W.tick≤0
    rw[h.tick]
    decide
  · show W.ids.length≤0
    rw[h.ids]
    exact aq _
attribute [local irreducible] G GO GP GPW GPK GF GE Ev Ef EfR Ent CB GB V.Enters bX delM
def te{L:LH}(n:Int)(hn:1≤n∧n≤12)(ad:OA)(m c:Nat)(l:List Int)[hrd:Rds L ad Int (encZ .i64) 1 l](hm:m=l.length)(hc:m≤c)(hx:∀x∈l,I64 x) :
    Tri Tryz.prog 11 #[ac n,ag ad m c] (cD::L) (fun v L'=>∃wb W,v=.tuple #[ax wb,.bool true]∧StartI n l W∧L' = wdL wb n W (cD::L)):=by
  subst hm;refine Tri.bd ?_;refine Ks ?_;intros;rename_i bw;refine G.loop (α:=Nat×(OA×Nat)×(OA×Nat)×List SdV) (fun g=>((g.1:Int)≤n∧g.2.2.2.length=g.1)∧∀i,i<g.2.2.2.length→SdI l i g.2.2.2[i]!) (fun g=>[(0,ac n),(1,ag ad l.length c),(6,ax bw),(7,ac (g.1:Int))]) (fun g=>obj bw tWd [ag g.2.1.1 g.2.2.2.length g.2.1.2,ag g.2.2.1.1 g.2.2.2.length g.2.2.1.2,ag none 0 0,ac 0,ag none 0 0]::osl dz 1 tLp g.2.1.1 g.2.1.2 (g.2.2.2.map (·.lb))::osl dz 1 tNq g.2.2.1.1 g.2.2.1.2 (g.2.2.2.map (·.nb))::bigO (sdF n) g.2.2.2::cD::L) (fun g=>n.toNat - g.1) (0,(none,0),(none,0),[]) ⟨⟨by dsimp only;omega,rfl⟩,fun i hi=>absurd hi (fN i)⟩ aC ?_ ?_
  · dsimp only
    refine(Ent.j0 (sdF n)).trans ((Ent.c8 dz 1 tNq).trans ((Ent.c8 dz 1 tLp).trans ?_))
    simp only[bG,bz]
    exact ah
  rintro⟨i,⟨lad,lcap⟩,⟨nad,ncap⟩,sds⟩ ⟨⟨hi,a5⟩,a7⟩;dsimp only at hi a5 a7 ⊢;have b5:(sds.map (·.lb)).length=i:=by rw[an];exact a5
  have b7:(sds.map (·.nb)).length=i:=by rw[an];exact a5
  by_cases b6:(i:Int)<n
  case neg =>
    refine Ks ?_;intros;refine KX.a8 aA ?_ ⟨bw,⟨sds,lad,lcap,nad,ncap,[],none,0,0,[],none,0⟩,rfl,⟨by dsimp only;omega,a7,rfl,rfl,rfl⟩,rfl⟩;refine(Ent.at (A:=osl dz 1 tLp lad lcap (sds.map (·.lb))) Ent.freezeSl).trans ?_;refine(Ent.at (A:=osl dz 1 tNq nad ncap (sds.map (·.nb))) Ent.freezeSl).trans ?_;refine(Ent.n9 bC 3 tMs).trans ((Ent.c7 msP).trans ((Ent.c8 (encZ .i64) 1 tInt).trans ?_));simp only[wdL,wdC,bz];exact ah
  refine Ks ?_;intros;refine GO.ca (uM) ?_;rintro _ _⟨cv,rfl,⟨b1,b3⟩,rfl⟩;refine Ks ?_;intros;refine GO.ent (L':=catP cv::cD::(obj bw tWd [ag lad sds.length lcap,ag nad sds.length ncap,ag none 0 0,ac 0,ag none 0 0]::osl dz 1 tLp lad lcap (sds.map (·.lb))::osl dz 1 tNq nad ncap (sds.map (·.nb))::bigO (sdF n) sds::L)) ah ?_;refine GO.ca (DI (i:Int) cv ⟨ab,ab⟩ b3 (by rw[b1];exact AW)) ?_;rintro _ _⟨lb,rfl,rfl⟩;rw[b1];refine Ks ?_;intros;generalize hj:min (l.length:Int) (16*(i:Int))=j at *;have c2:0≤j∧j≤l.length:=ab;refine Ks ?_;intros;refine GO.ca (wD (hrd:=Rds.drop (xs:=l) inferInstance hc j.toNat) (advA ad c 1 j.toNat) (l.length - j.toNat) (c - j.toNat) (l.drop j.toNat) (by rw[bY]) (fun x h=>hx x (cG h))) ?_;rintro _ _⟨sad,scap,ss,rfl,⟨⟨c4,b9⟩,c0⟩,rfl⟩;have hz:l=[]→ss=[]:=fun q=>b9 (by rw[q,List.drop_nil]);refine Ks ?_;intros;refine G.loop (α:=Nat×LedM) (fun g=>g.1≤ss.length∧SpI i g.1 g.2∧(l=[]→g.2=led0 i cat22)) (fun g=>[(0,ac n),(1,ag ad l.length c),(6,ax bw),(7,ac (i:Int)),(8,ax lb),(10,ag sad ss.length scap),(11,ac (g.1:Int))]) (fun g=>aS lb g.2::osl dQ 7 ik sad scap ss::allP iO ss::obj bw tWd [ag lad sds.length lcap,ag nad sds.length ncap,ag none 0 0,ac 0,ag none 0 0]::osl dz 1 tLp lad lcap (sds.map (·.lb))::osl dz 1 tNq nad ncap (sds.map (·.nb))::bigO (sdF n) sds::cD::L) (fun g=>ss.length - g.1) (0,led0 i cat22) ⟨aw _,SpI.zero ⟨ab,ab⟩,fun _=>rfl⟩ aC (by dsimp only;exact ah) ?_;rintro⟨k,S⟩ ⟨hk,hI,b0⟩;dsimp only at hk hI b0 ⊢;by_cases a2:k<ss.length
  · have b4:(k:Int).toNat=k:=ab
    obtain⟨to,x,nn,mad,a9,b8⟩:=c0 _ (aV a2)
    have a6:=aV a2
    have c1:¬l=[]:=fun q=>by
      rw[hz q] at a2;exact absurd a2 (fN _)
    generalize hsk:ss[k]! = s at *
    obtain⟨p1,p2⟩:=hI.post ab b8 mad
    rw[←a9] at p1 p2
    have hin:=wE to x nn mad
    rw[←a9] at hin
    have c3:=hI.k
    refine Ks ?_;intros;rw[b4,hsk]
    refine GO.ent (Ent.at (A:=allP iO ss) ((Ent.c9 (f:=iO) a6).trans Ent.andE)) ?_
    refine GO.ent (L':=aS lb S::stM s::stP s::(osl dQ 7 ik sad scap ss::allP iO ss::obj bw tWd [ag lad sds.length lcap,ag nad sds.length ncap,ag none 0 0,ac 0,ag none 0 0]::osl dz 1 tLp lad lcap (sds.map (·.lb))::osl dz 1 tNq nad ncap (sds.map (·.nb))::bigO (sdF n) sds::cD::L)) ah ?_
    refine GO.ca (kO lb S (kOf S) hI.led.a (by rw[hI.led.cat];exact hI.led.ok) hI.led.now s hin.1 hin.2 (by rw[a9];show kOf S+1≤2000;omega) sY) ?_
    rw[p1]
    rintro _ _⟨rfl,rfl⟩
    refine Ks ?_;intros;refine⟨(k+1,ce S s.m),⟨by dsimp only;omega,p2,fun q=>absurd q c1⟩,by dsimp only;omega,?_,by exact ah⟩
    dsimp only
    rw[bh k]
    exact aC
  refine Ks ?_;intros;refine GO.ca (GW lb (i:Int) n ab b6 hn.2) ?_;rintro _ _⟨nb,mb,mp,mr,rfl,rfl⟩;simp only[ndL,ndC];refine Ks ?_;intros;refine GO.ef (Ef.a8 (enc:=dz) (e:=lb) rfl rfl rfl (by rw[an]) rfl aQ (vF _) ab ab) ae ?_;rintro _ _⟨a3,a0,rfl,rfl⟩;refine Ks ?_;intros;refine GO.ef (Ef.a8 (enc:=dz) (e:=nb) rfl rfl rfl (by rw[an]) rfl aQ (vF _) ab ab) ae ?_;rintro _ _⟨a4,a1,rfl,rfl⟩;refine Ks ?_;intros;have b2:=hI.mono (ab:k≤8);refine⟨(i+1,(a3,a0),(a4,a1),sds++[⟨nb,lb,(i:Int),⟨mb,mp,mr,0,0,[],[],[]⟩,S⟩]),⟨⟨by dsimp only;omega,by simp[a5]⟩,fun q hq=>?_⟩,by dsimp only;omega,?_,?_⟩
  · dsimp only at hq ⊢
    rw[aj,aI] at hq
    by_cases h:q<sds.length
    · rw[getElem!_of (by rw[aj];omega),dw h,←getElem!_of h]
      exact a7 q h
    · have e:q=sds.length:=ab
      subst e
      rw[getElem!_of (by rw[aj,aI];omega),cM (aq _)]
      simp only[Nat.sub_self,List.getElem_singleton]
      rw[a5]
      exact⟨rfl,rfl,b2,b0⟩
  · dsimp only
    rw[bh i]
    exact aC
  · dsimp only
    simp only[aJ,aF,bG,aj,an,aI]
    refine Ent.trans (B:=ndL nb lb (i:Int) n ⟨mb,mp,mr,0,0,[],[],[]⟩ (aS lb S::(bigO (sdF n) sds::obj bw tWd [ag a3 (sds.length+1) a0,ag a4 (sds.length+1) a1,ag none 0 0,ac 0,ag none 0 0]::osl dz 1 tLp a3 a0 (sds.map (·.lb)++[lb])::osl dz 1 tNq a4 a1 (sds.map (·.nb)++[nb])::cD::L))) (by simp only[ndL,ndC];exact ah) ?_
    refine(Ent.f9 (A:=ndL nb lb (i:Int) n ⟨mb,mp,mr,0,0,[],[],[]⟩ [aS lb S])).trans ?_
    refine(Ent.k8 (f:=sdF n) (x:=(⟨nb,lb,(i:Int),⟨mb,mp,mr,0,0,[],[],[]⟩,S⟩:SdV))).trans ?_
    exact ah
end
section
open Go.V
noncomputable def advK(W:WdM)(k:Int):WdM:=W.send k (eu k W.tick (W.nd k).1 (W.nd k).2)
noncomputable def advN(W:WdM):Nat→WdM
  | 0=>W
  | k+1=>advK (advN W k) (k:Int)
noncomputable def dlvM(shs:Int)(W:WdM):WdM:=match W.ms with
  | []=>W
  | m::ms=>if 0≤m.to∧m.to<shs then({ W with ms:=ms }:WdM).send m.to (eH m.to shs m W.tick (W.nd m.to).1 (W.nd m.to).2) else { W with ms:=ms }
noncomputable def dlvN(shs:Int)(W:WdM):Nat→WdM
  | 0=>W
  | k+1=>dlvM shs (dlvN shs W k)
noncomputable def wV(shs:Int)(W:WdM):WdM:=dlvN shs (advN W shs.toNat) 400
noncomputable def jd(shs:Int)(W:WdM):Nat→WdM
  | 0=>W
  | r+1=>wV shs (jd shs W r)
def ua(shs:Int)(M T:Nat)(W:WdM):Prop:=(∀k:Nat,(k:Int)≤shs→WdI shs 63 1900 M T (advN W k))∧∀k:Nat,k≤400→WdI shs 63 1900 M T (dlvN shs (advN W shs.toNat) k)
def mZ{shs:Int}{W:WdM}{j:Nat}(h:(dlvN shs W j).ms=[]):∀k,j≤k→dlvN shs W k=dlvN shs W j
  | 0,hk=>by rw[show j=0 by omega]
  | k+1,hk=>by
    by_cases e:j=k+1
    · rw[e]
    · have ih:=mZ h k ab
      show dlvM shs (dlvN shs W k)=_
      rw[ih]
      unfold dlvM
      rw[h]
def SameB.trans{A B C:WdV}(h1:SameB A B)(h2:SameB B C):SameB A C:=Eq.trans h2 h1
def SameB.sh{A B:WdV}(h:SameB A B)(ha:ShOk A):ShOk B:=fun i hi=>by
  have hl:B.sds.length=A.sds.length:=by simpa using congrArg List.length h
  have e:=congrArg (fun l:List (Nat×Nat×Int)=>l[i]!) h;rw[gw (f:=fun s:SdV=>(s.lb,s.nb,s.sh)) hi,gw (f:=fun s:SdV=>(s.lb,s.nb,s.sh)) ab] at e;have e2:=congrArg (fun p:Nat×Nat×Int=>p.2.2) e;dsimp only at e2;rw[e2];exact ha i ab
def SameB.len{A B:WdV}(h:SameB A B):B.sds.length=A.sds.length:=by simpa using congrArg List.length h
def WdV.c8{W:WdV}{shs:Int}{c b M T:Nat}(h:WdI shs c b M T W.m):(W.sds.length:Int)=shs∧W.msl.length≤M:=by
  have h1:=h.len;have h2:=h.ml;simp only[WdV.m,an] at h1 h2;exact⟨h1,h2⟩
attribute [local irreducible] G GO GP GPW GPK GF GE Ev Ef EfR Ent CB GB V.Enters bX delM eH eu
abbrev Do:=XE [.ev 13,.ev 14,.ev 15,.ef 16,.ef 17,.ev 18,.ev 19,.ef 20]
abbrev Au:=XE []
abbrev As:=XF [.ev 17,.ef 18,.ef 19,.ev 20,.ev 21,.ef 22]
def df{φ ψ:Prop}(k:ψ)(h:Hid ψ→φ:=by intro k;(with_reducible apply G.a8);first|refine G.dr 103 6 Do (Hid.out k)|refine G.dr 103 12 Au (Hid.out k)|refine G.dr 103 13 As (Hid.out k)):φ:=h ⟨k⟩
def Ww{φ ψ:Prop}(k:ψ)(h:Hid ψ→φ:=by intro k;(repeat (first|refine aa ?_|intro zzz|refine df ?_));(repeat revert zzz);exact Hid.out k):φ:=h ⟨k⟩
def zt{L:LH}(wb:Nat)(shs:Int)(W0:WdV)(b5:ShOk W0)(a0:Nat)(hr:a0≤1000){M T:Nat}(hM:M≤100000000000)(h0:WdI shs 63 1900 M T W0.m)(hS:∀r,r<a0→ua shs M T (jd shs W0.m r)) :
    Tri Tryz.prog 22 #[ax wb,ac (a0:Int)] (wdL wb shs W0 L) (fun v L'=>∃W',v=.tuple #[]∧(W'.m=jd shs W0.m a0∧SameB W0 W')∧L' = wdL wb shs W' L):=by
  have h2:=h0.rng;refine Tri.bd ?_;refine Ww ?_;intros;refine G.loop (α:=Nat×WdV) (fun g=>g.1≤a0∧g.2.m=jd shs W0.m g.1∧SameB W0 g.2) (fun g=>[(0,ax wb),(1,ac (a0:Int)),(4,ac (g.1:Int))]) (fun g=>wdL wb shs g.2 L) (fun g=>a0 - g.1) (0,W0) ⟨aw _,rfl,rfl⟩ aC (Ent.refl _) ?_;rintro⟨r,W1⟩ ⟨g3,c1,a3⟩;dsimp only at g3 c1 a3 ⊢;by_cases f6:r<a0
  case neg =>
    have e:r=a0:=ab;subst e;refine Ww ?_;intros;exact KX.c8 aA (Ent.refl _) ⟨W1,rfl,⟨c1,a3⟩,rfl⟩
  obtain⟨sa,sd⟩:=hS r f6;rw[←c1] at sa sd;have g0:(r:Int)<(a0:Int):=ab;refine Ww ?_;intros;refine G.loop (α:=Nat×WdV) (fun g=>(g.1:Int)≤shs∧g.2.m=advN W1.m g.1∧SameB W1 g.2) (fun g=>[(0,ax wb),(1,ac (a0:Int)),(4,ac (r:Int)),(5,ac (g.1:Int))]) (fun g=>wdL wb shs g.2 L) (fun g=>shs.toNat - g.1) (0,W1) ⟨by dsimp only;omega,rfl,rfl⟩ aC (Ent.refl _) ?_;rintro⟨k,W⟩ ⟨hk,hW,c4⟩;dsimp only at hk hW c4 ⊢;have hI:=sa k hk;rw[←hW] at hI;obtain⟨f5,h1⟩:=WdV.c8 hI;have g4:=(a3.trans c4).sh b5;by_cases d2:(k:Int)<shs
  · have d1:(k:Int).toNat=k:=ab
    have c3:k<W.sds.length:=ab
    obtain⟨s,hs⟩:∃s,W.sds[k]! = s:=⟨_,rfl⟩
    have e7:s.sh=(k:Int):=by have:=g4 k c3;rw[hs] at this;exact this
    have e4:W.m.nd (k:Int)=(s.n.m,s.S):=WdV.c7 ab (by rw[d1];exact hs)
    have a2:(W.sds.map (·.nb))[(k:Int).toNat]! = s.nb:=by
      rw[←hs,d1];exact gw (f:=fun s:SdV=>s.nb) c3
    have c0:=hI.at (i:=(k:Int)) ⟨ab,d2⟩
    rw[e4] at c0
    have e2:=c0.bd
    have e5:=ll (tick:=W.tick) (b:=1900) ⟨ab,d2⟩ hI.rng.2 c0.a e2 ae
    have g2:(W.sds.map (·.nb)).length=W.sds.length:=an _
    dsimp only at e2 e5
    have d6:advN W1.m (k+1)=advK W.m (k:Int):=by
      show advK (advN W1.m k) (k:Int)=_;rw[hW]
    have f0:advK W.m (k:Int)=W.m.send (k:Int) (eu (k:Int) W.tick s.n.m s.S):=by
      unfold advK;rw[e4];rfl
    simp only[wdL,wdC]
    have d3:(k:Int)<(W.sds.length:Int):=ab
    refine Ww ?_;intros;refine GPW.ent (Ent.at (A:=bigO (sdF shs) W.sds) (nq c3 hs)) ?_
    rw[e7]
    refine GPW.ent (L':=ndL ((W.sds.map (·.nb))[(k:Int).toNat]!) s.lb (k:Int) shs s.n (aS s.lb s.S::(bigO (sdF shs) (W.sds.eraseIdx k)::obj wb tWd [ag W.lad W.sds.length W.lcap,ag W.nad W.sds.length W.ncap,ag W.mad W.msl.length W.mcap,ac W.tick,ag W.iad W.ids.length W.icap]::isl dz 1 W.lad (W.sds.map (·.lb))::isl dz 1 W.nad (W.sds.map (·.nb))::tsl bC 3 tMs W.mad W.mcap W.msl::allP msP W.msl::osl (encZ .i64) 1 tInt W.iad W.icap W.ids::L))) (by rw[a2];simp only[ndL,ndC];exact ah) ?_
    refine GPW.ca (qJ ((W.sds.map (·.nb))[(k:Int).toNat]!) s.lb (k:Int) shs ⟨ab,d2⟩ hI.rng.2 s.n s.S cat22 c0.a ab W.tick) ?_
    generalize eu (k:Int) W.tick s.n.m s.S=B at *
    rintro _ _⟨e8,c5,ds,n',rfl,b1,d5,rfl⟩
    have f2:ds.length≤600000000:=by
      have e:=congrArg List.length b1;have:=e5.len
      rw[an] at e;omega
    simp only[ndL,ndC]
    refine Ww ?_;intros;refine GPW.ef (Ef.j9 (enc:=bC) (ys:=ds) rfl rfl rfl rfl rfl (fun e _=>eJ e) ab ab) ae ?_
    rintro _ _⟨b8,a6,rfl,rfl⟩
    refine Ww ?_;intros;rw[a2]
    refine⟨(k+1,⟨W.sds.set k { s with n:=n',S:=B.2.2 },W.lad,W.lcap,W.nad,W.ncap,W.msl++ds,b8,a6,W.tick,W.ids,W.iad,W.icap⟩),⟨by dsimp only;omega,?_,?_⟩,by dsimp only;omega,?_,?_⟩
    · dsimp only
      rw[d6,f0]
      have e:=WdV.a8 (W:=W) (k:=(k:Int)) (s:=s) n' B.2.2 ds B b1 d5 rfl b8 a6
      rw[d1] at e
      exact e
    · exact c4.trans (ji _ hs _ rfl)
    · dsimp only
      rw[bh k]
      exact aC
    · refine(Ent.at (A:=allP msP ds) (Ent.refl _)).trans ?_
      refine(Ent.at (A:=allP msP W.msl) (Ent.refl _)).trans ?_
      refine(Ent.d7 (f:=msP) fq).trans ?_
      refine Ent.trans ?_ (ln c3 hs n' _ _ _ _ _ _ _ _)
      rw[e7]
      simp only[ndL,ndC]
      exact ah
  have f4:k=shs.toNat:=ab;subst f4;have d3:¬((shs.toNat:Int))<(W.sds.length:Int):=ab;rw[←hW] at sd;have a9:=a3.trans c4;simp only[wdL,wdC];refine Ww ?_;intros;refine G.loop (α:=Nat×WdV) (fun g=>g.1≤400∧g.2.m=dlvN shs W.m g.1∧SameB W g.2) (fun g=>[(0,ax wb),(1,ac (a0:Int)),(4,ac (r:Int)),(6,ac (g.1:Int))]) (fun g=>wdL wb shs g.2 L) (fun g=>400 - g.1) (0,W) ⟨aw _,rfl,rfl⟩ aC (by simp only[wdL,wdC];exact ah) ?_;rintro⟨k,Y⟩ ⟨d0,hY,b4⟩;dsimp only at d0 hY b4 ⊢;have c2:=sd k d0;rw[←hY] at c2;obtain⟨g7,e9⟩:=WdV.c8 c2;have e0:=(a9.trans b4).sh b5
  have a5:(400≤k∨Y.msl=[])→dlvN shs W.m 400=Y.m:=fun h=>by
    rcases h with h|h
    · rw[hY,show k=400 by omega]
    · rw[mZ (j:=k) (by rw[←hY];show Y.msl.map (·.m)=[];rw[h];rfl) 400 d0,hY]
  have a4:dlvN shs W.m 400=Y.m→Y.m=jd shs W0.m (r+1):=fun h=>by
    show _=wV shs (jd shs W0.m r);unfold wV;rw[←c1,←hW,h]
  by_cases e3:k<400
  case neg =>
    have f3:¬(k:Int)<400:=ab;refine Ww ?_;intros;refine⟨(r+1,Y),⟨by dsimp only;omega,a4 (a5 (.inl ab)),a9.trans b4⟩,by dsimp only;omega,?_,Ent.refl _⟩;dsimp only;rw[bh r];exact aC
  have f3:(k:Int)<400:=ab;simp only[wdL,wdC];by_cases hz:Y.msl.length>0
  case neg =>
    have g6:¬(Y.msl.length:Int)>0:=ab;refine Ww ?_;intros;refine⟨(r+1,Y),⟨by dsimp only;omega,a4 (a5 (.inr (aZ ab))),a9.trans b4⟩,by dsimp only;omega,?_,?_⟩
    · dsimp only
      rw[bh r]
      exact aC
    · simp only[wdL,wdC]
      exact ah
  have g6:(Y.msl.length:Int)>0:=ab;have b2:Y.msl[0]!∈Y.msl:=aV hz;have hX:LnkM shs Y.msl[0]!.m:=c2.ms _ (alStd0List_mem_map_of_mem b2)
  have g1:Y.m.ms=Y.msl[0]!.m::(Y.msl.drop 1).map (·.m):=by
    show Y.msl.map (·.m)=_;have e:Y.msl=Y.msl[0]!::Y.msl.drop 1:=by rw[getElem!_of hz,←bV hz,List.drop_zero]
    conv=>lhs;rw[e]
    rfl
  repeat first|refine G.sn 12 ?_|refine dq ?_|intro _|refine df ?_
  rename_i b7;refine G.ent (Ent.at (A:=allP msP Y.msl) (Ent.c9 (f:=msP) b2)) ?_;rw[show(0:Int).toNat=0 from rfl,show(1:Int).toNat=1 from rfl];generalize Y.msl[0]! = x at *;refine G.ent (Ent.at (A:=tsl bC 3 tMs Y.mad Y.mcap Y.msl) (Ent.m7 (k:=1) ab)) ?_;have d4:(Y.msl.drop 1).length=Y.msl.length - 1:=bY;have e1:=hX.x.to;have g5:x.m.to<Y.sds.length:=ab;obtain⟨j,hj⟩:∃j,j=x.m.to.toNat:=⟨_,rfl⟩;have c6:j<Y.sds.length:=ab;obtain⟨s2,b0⟩:∃s,Y.sds[j]! = s:=⟨_,rfl⟩;have b6:s2.sh=x.m.to:=by have:=e0 j c6;rw[b0] at this;omega
  have b3:Y.m.nd x.m.to=(s2.n.m,s2.S):=WdV.c7 ab (by rw[←hj];exact b0)
  have a2:(Y.sds.map (·.nb))[x.m.to.toNat]! = s2.nb:=by
    rw[←b0,hj];exact gw (f:=fun s:SdV=>s.nb) ab
  have a1:=c2.at e1;rw[b3] at a1;have e6:=oe (tick:=Y.tick) e1 a1.a hX a1.bd ae;have ha:=hX.x.am;have f1:=a1.bd;have g2:(Y.sds.map (·.nb)).length=Y.sds.length:=an _;dsimp only at f1 e6
  have d6:dlvN shs W.m (k+1)=({ Y.m with ms:=(Y.msl.drop 1).map (·.m) }:WdM).send x.m.to (eH x.m.to shs x.m Y.tick s2.n.m s2.S):=by
    show dlvM shs (dlvN shs W.m k)=_;rw[←hY];unfold dlvM;rw[g1];dsimp only;rw[if_pos e1,b3];rfl
  refine Ww ?_;intros;refine GPW.ent (Ent.at (A:=bigO (sdF shs) Y.sds) (nq c6 b0)) ?_;rw[b6];refine GPW.ent (L':=msP x::ndL ((Y.sds.map (·.nb))[x.m.to.toNat]!) s2.lb x.m.to shs s2.n (aS s2.lb s2.S::(bigO (sdF shs) (Y.sds.eraseIdx j)::obj wb tWd [ag Y.lad Y.sds.length Y.lcap,ag Y.nad Y.sds.length Y.ncap,ag (advA Y.mad Y.mcap 3 1) (Y.msl.length - 1) (Y.mcap - 1),ac Y.tick,ag Y.iad Y.ids.length Y.icap]::isl dz 1 Y.lad (Y.sds.map (·.lb))::isl dz 1 Y.nad (Y.sds.map (·.nb))::tsl bC 3 tMs (advA Y.mad Y.mcap 3 1) (Y.mcap - 1) (Y.msl.drop 1)::allP msP Y.msl::osl (encZ .i64) 1 tInt Y.iad Y.icap Y.ids::obj b7 tMs (bC x)::L))) (by rw[a2];simp only[ndL,ndC];exact ah) ?_;refine GPW.ca (pW ((Y.sds.map (·.nb))[x.m.to.toNat]!) s2.lb x.m.to shs s2.n s2.S cat22 x hX.ct (by have:=hX.x.kd;omega) a1.a.hin ab Y.tick) ?_;generalize eH x.m.to shs x.m Y.tick s2.n.m s2.S=B at *;rintro _ _⟨e8,c5,ds,n',rfl,b1,d5,rfl⟩
  have f2:ds.length≤3300:=by
    have e:=congrArg List.length b1;have:=e6.len
    rw[an] at e;omega
  simp only[ndL,ndC];refine Ww ?_;intros;refine GPW.ef (Ef.j9 (enc:=bC) (xs:=Y.msl.drop 1) (ys:=ds) rfl rfl (by rw[d4]) rfl rfl (fun e _=>eJ e) ab ab) ae ?_;rintro _ _⟨b9,a7,rfl,rfl⟩;refine Ww ?_;intros;rw[a2];refine⟨(k+1,⟨Y.sds.set j { s2 with n:=n',S:=B.2.2 },Y.lad,Y.lcap,Y.nad,Y.ncap,Y.msl.drop 1++ds,b9,a7,Y.tick,Y.ids,Y.iad,Y.icap⟩),⟨by dsimp only;omega,?_,?_⟩,by dsimp only;omega,?_,?_⟩
  · dsimp only
    rw[d6,hj]
    exact WdV.a8 (W:=⟨Y.sds,Y.lad,Y.lcap,Y.nad,Y.ncap,Y.msl.drop 1,advA Y.mad Y.mcap 3 1,Y.mcap - 1,Y.tick,Y.ids,Y.iad,Y.icap⟩) (k:=x.m.to) (s:=s2) n' B.2.2 ds B b1 d5 rfl b9 a7
  · exact b4.trans (ji _ b0 _ rfl)
  · dsimp only
    rw[bh k]
    exact aC
  · refine(Ent.at (A:=allP msP ds) (Ent.refl _)).trans ?_
    refine(Ent.at (A:=allP msP Y.msl) (Ent.g9 (l':=Y.msl.drop 1) fun y hy=>cG hy)).trans ?_
    refine(Ent.d7 (f:=msP) fq).trans ?_
    refine Ent.trans ?_ (ln c6 b0 n' _ _ _ _ _ _ _ _)
    rw[b6]
    simp only[ndL,ndC]
    exact ah
end
section
open Go.V
def jt(S:LedM)(s:StM):LedM:={ S with stk:=(dP S.shard S.flows (fJ S.cat) (s.at (cV S)) (wk0 S) s.moves).2.stk,tot:=(dP S.shard S.flows (fJ S.cat) (s.at (cV S)) (wk0 S) s.moves).2.tot,steps:=S.steps++[s.at (cV S)],flows:=S.flows++(dP S.shard S.flows (fJ S.cat) (s.at (cV S)) (wk0 S) s.moves).2.flows }
def qv{S:LedM}{s:StM}(h1:S.steps.length<65536)(h2:gY S.cat S.now s)(h3:(dP S.shard S.flows (fJ S.cat) (s.at (cV S)) (wk0 S) s.moves).1=0):(gTry S s).1=0∧ce S s=jt S s:=by
  have hg:gTry S s=dP S.shard S.flows (fJ S.cat) (s.at (cV S)) (wk0 S) s.moves:=by
    unfold gTry;rw[if_neg ab,if_neg (not_not_intro h2)]
  have h0:(gTry S s).1=0:=by rw[hg];exact h3
  refine⟨h0,?_⟩;rw[show ce S s=fV S s from if_pos h0];unfold fV jt;rw[hg]
instance (k:Nat)(m:MvM):Decidable (rh k m):=by unfold rh;infer_instance
def nu{now kind tick f t x n:Int}{ps:LL}(hk:0≤kind∧kind≤10)(k4:¬kind=4)(a0:¬kind=10)(ht:now≤tick∧tick≤1099511627776)(hb:rh 4 ⟨f,t,x,n,ps⟩)(hp:if iJ kind=true then kR ps n else ps.length=0)(he:jk kind ⟨f,t,x,n,ps⟩):gY cat22 now (esM kind tick [⟨f,t,x,n,ps⟩]):=by
  refine⟨hk,⟨by show(0:Int)≤0;decide,by show(0:Int)≤1073741824;decide⟩,ht,⟨by show 1≤1;decide,by show 1≤64;decide⟩,fun m hm=>?_,?_⟩
  · rw[List.mem_singleton.1 hm]
    exact⟨hb,hp⟩
  · unfold pJ
    rw[if_neg (show ¬(esM kind tick [⟨f,t,x,n,ps⟩]).kind=4 from k4),if_neg (show ¬(esM kind tick [⟨f,t,x,n,ps⟩]).kind=10 from a0)]
    exact⟨fun m hm=>by rw[List.mem_singleton.1 hm];exact he,rfl,rfl⟩
def pst{S:LedM}{kind tick:Int}{ms:List MvM}(h1:S.steps.length<65536)(h2:gY S.cat S.now (esM kind tick ms))(h3:(dP S.shard S.flows (fJ S.cat) ((esM kind tick ms).at (cV S)) (wk0 S) ms).1=0) :
    gOk S kind tick ms=true∧gAft S kind tick ms=jt S (esM kind tick ms)∧gIds S kind tick ms=((jt S (esM kind tick ms)).flows.drop S.flows.length).map (·.id):=by
  obtain⟨e1,e2⟩:=qv (s:=esM kind tick ms) h1 h2 h3;refine⟨bE e1,e2,?_⟩;unfold gIds kV;rw[if_pos e1,e2]
def xa0:LedM:=jt (led0 0 cat22) (esM 0 0 [⟨0,1,0,5,[]⟩])
def xb0:LedM:=jt (led0 1 cat22) (esM 0 0 [⟨0,2,1,3,[]⟩])
def xa1:LedM:=jt xa0 (esM 2 0 [⟨1,268435456,0,5,[]⟩])
def xb1:LedM:=jt xb0 (esM 2 0 [⟨2,268435456,1,3,[]⟩])
def xa2:LedM:=jt xa1 (esM 6 0 [⟨268435456,0,0,5,[]⟩])
def xb2:LedM:=jt xb1 (esM 5 0 [⟨0,2,0,5,[(2,0,5)]⟩])
def xb3:LedM:=jt xb2 (esM 6 0 [⟨268435456,0,1,3,[]⟩])
def xa3:LedM:=jt xa2 (esM 5 0 [⟨0,1,1,3,[(4294967299,0,3)]⟩])
def qL{k:Int}(h:¬(k=5∨k=7∨k=9)){ps:LL}{n:Int}(hp:ps.length=0):if iJ k=true then kR ps n else ps.length=0:=by
  rw[td h,if_neg ae];exact hp
def El{k:Int}(h:k=5∨k=7∨k=9){ps:LL}{n:Int}(hp:kR ps n):if iJ k=true then kR ps n else ps.length=0:=by
  rw[show iJ k=true from bE h,if_pos rfl];exact hp
def q1:gOk xa0 2 0 [⟨1,268435456,0,5,[]⟩]=true∧gAft xa0 2 0 [⟨1,268435456,0,5,[]⟩]=xa1∧gIds xa0 2 0 [⟨1,268435456,0,5,[]⟩]=[1] :=
  pst (S:=xa0) ae (nu ae ae ae ae ae (qL ae rfl) ae) rfl
def q2:gOk xb0 2 0 [⟨2,268435456,1,3,[]⟩]=true∧gAft xb0 2 0 [⟨2,268435456,1,3,[]⟩]=xb1∧gIds xb0 2 0 [⟨2,268435456,1,3,[]⟩]=[4294967297] :=
  pst (S:=xb0) ae (nu ae ae ae ae ae (qL ae rfl) ae) rfl
def q3:gOk xa1 6 0 [⟨268435456,0,0,5,[]⟩]=true∧gAft xa1 6 0 [⟨268435456,0,0,5,[]⟩]=xa2∧gIds xa1 6 0 [⟨268435456,0,0,5,[]⟩]=[2] :=
  pst (S:=xa1) ae (nu ae ae ae ae ae (qL ae rfl) ae) rfl
def q4:gOk xb1 5 0 [⟨0,2,0,5,[(2,0,5)]⟩]=true∧gAft xb1 5 0 [⟨0,2,0,5,[(2,0,5)]⟩]=xb2∧gIds xb1 5 0 [⟨0,2,0,5,[(2,0,5)]⟩]=[4294967298] :=
  pst (S:=xb1) ae (nu ae ae ae ae ae (El ae ae) ae) rfl
def q5:gOk xb2 6 0 [⟨268435456,0,1,3,[]⟩]=true∧gAft xb2 6 0 [⟨268435456,0,1,3,[]⟩]=xb3∧gIds xb2 6 0 [⟨268435456,0,1,3,[]⟩]=[4294967299] :=
  pst (S:=xb2) ae (nu ae ae ae ae ae (qL ae rfl) ae) rfl
def q6:gOk xa2 5 0 [⟨0,1,1,3,[(4294967299,0,3)]⟩]=true∧gAft xa2 5 0 [⟨0,1,1,3,[(4294967299,0,3)]⟩]=xa3∧gIds xa2 5 0 [⟨0,1,1,3,[(4294967299,0,3)]⟩]=[3] :=
  pst (S:=xa2) ae (nu ae ae ae ae ae (El ae ae) ae) rfl
def xbal:lsum (xa1.stk 1 0)=0∧lsum (xa3.stk 1 1)=3∧lsum (xb3.stk 2 0)=5:=⟨rfl,rfl,rfl⟩
def oQ{sh tick:Int}{m:MsM}{N:NdM}{S:LedM}(h:m.to=sh)(d:Nat):bX sh tick (d+1) m N S=cn (bX sh tick d) (bZ sh m.frm m.ct tick N S).1 (bZ sh m.frm m.ct tick N S).2.1 (bZ sh m.frm m.ct tick N S).2.2:=by
  rw[bX];exact if_neg fun q=>q h
def sy{sh tick:Int}(d:Nat):∀{l:List MsM} {N:NdM} {S:LedM},(∀m∈l,m.to≠sh)→cn (bX sh tick (d+1)) l N S=(l,N,S)
  | [],N,S,_=>rfl
  | m::l,N,S,h=>by
    simp only[cn];rw[kQ (h m av)];dsimp only;rw[sy d fun x hx=>h x (au _ hx)];rfl
def jS{sh shs tick:Int}{x:MsM}{N:NdM}{S:LedM}{R:HRes}(h1:x.to=sh)(h2:0≤x.frm∧x.frm<shs)(h3:x.frm≠sh)(hh:bZ sh x.frm x.ct tick N S=R)(ho:∀m∈R.1,m.to≠sh):eH sh shs x tick N S=R:=by
  unfold eH;rw[if_pos ⟨h1,h2,h3⟩,hh];exact sy 6 ho
section
variable {sh f tick:Int}{m:CtM}{N:NdM}{S:LedM}
def BL(h:m.kind=1):bZ sh f m tick N S=iq sh m tick N S:=by
  unfold bZ;rw[if_pos h]
def uA(h:m.kind=2):bZ sh f m tick N S=gy sh f m tick N S:=by
  unfold bZ;rw[if_neg (show ¬m.kind=1 by rw[h];decide),if_pos h]
def IU(h:m.kind=3):bZ sh f m tick N S=fF sh m tick N S:=by
  unfold bZ;rw[if_neg (show ¬m.kind=1 by rw[h];decide),if_neg (show ¬m.kind=2 by rw[h];decide),if_pos h]
def BK(h:m.kind=4):bZ sh f m tick N S=jD f m N S:=by
  unfold bZ;rw[if_neg (show ¬m.kind=1 by rw[h];decide),if_neg (show ¬m.kind=2 by rw[h];decide),if_neg (show ¬m.kind=3 by rw[h];decide),if_pos h]
def IT(h:m.kind=5):bZ sh f m tick N S=gC sh f m tick N S:=by
  unfold bZ;rw[if_neg (show ¬m.kind=1 by rw[h];decide),if_neg (show ¬m.kind=2 by rw[h];decide),if_neg (show ¬m.kind=3 by rw[h];decide),if_neg (show ¬m.kind=4 by rw[h];decide),if_pos h]
def BJ(h:m.kind=6):bZ sh f m tick N S=gotM m N S:=by
  unfold bZ;rw[if_neg (show ¬m.kind=1 by rw[h];decide),if_neg (show ¬m.kind=2 by rw[h];decide),if_neg (show ¬m.kind=3 by rw[h];decide),if_neg (show ¬m.kind=4 by rw[h];decide),if_neg (show ¬m.kind=5 by rw[h];decide),if_pos h]
end
def lgA:LegM:=⟨0,1,1,2,[(0,5)]⟩
def lgB:LegM:=⟨1,2,0,1,[(1,3)]⟩
def xl:List LegM:=[lgA,lgB]
def xe(v t:List Int)(d:Bool):ExM:=⟨xl,[0,1],9,v,t,d,d⟩
def xp(s:Int)(l:LegM)(i st:Int)(fl:List Int):PtM:=⟨s,268435456,[⟨l,i,st,fl⟩]⟩
def na0:NdM:=⟨1,0,[(0,xe [] [] false)],[],[]⟩
def na1:NdM:=⟨1,1,[(0,xe [0] [] false)],[(0,xp 0 lgA 0 0 [])],[]⟩
def na2:NdM:=⟨1,1,[(0,xe [0,1] [0] true)],[(0,xp 1 lgA 0 1 [2])],[]⟩
def na3:NdM:=⟨1,1,[(0,xe [0,1] [0] true)],[(0,xp 1 lgA 0 2 [2])],[]⟩
def na4:NdM:=⟨1,1,[(0,xe [0,1] [0] true)],[(0,xp 1 lgA 0 2 [2])],[(0,1)]⟩
def na5:NdM:=⟨1,1,[(0,xe [0,1] [0,1] true)],[(0,xp 1 lgA 0 2 [2])],[(0,1)]⟩
def nb1:NdM:=⟨0,1,[],[(0,xp 0 lgB 1 0 [])],[]⟩
def nb2:NdM:=⟨0,1,[],[(0,xp 0 lgB 1 0 [])],[(0,0)]⟩
def nb3:NdM:=⟨0,1,[],[(0,xp 1 lgB 1 1 [4294967299])],[(0,0)]⟩
def nb4:NdM:=⟨0,1,[],[(0,xp 1 lgB 1 2 [4294967299])],[(0,0)]⟩
def xpc:CtM:=⟨1,0,0,false,xl,[]⟩
def mp1:MsM:=⟨0,1,xpc⟩
def mv1:MsM:=⟨1,0,ct0 2 0 0 true⟩
def mt1:MsM:=⟨0,1,⟨5,0,0,false,[lgA],[2]⟩⟩
def md1:MsM:=⟨0,1,ct0 3 0 0 true⟩
def mg0:MsM:=⟨1,0,ct0 6 0 0 false⟩
def mt0:MsM:=⟨1,0,⟨5,0,1,false,[lgB],[4294967299]⟩⟩
def mw0:MsM:=⟨1,0,ct0 4 0 0 false⟩
def mg1:MsM:=⟨0,1,ct0 6 0 1 false⟩
def Bo{sh hold:Int}{N N' : NdM}{S S' : LedM}(h0:glk N.parts 0=none)(h1:gOk S 2 0 (gL (268435456+N.hl) (ownM sh 0 xl))=true)(h2:gAft S 2 0 (gL (268435456+N.hl) (ownM sh 0 xl))=S')(h3:{ N with hl:=N.hl+1,parts:=gins N.parts 0 ⟨0,268435456+N.hl,ownM sh 0 xl⟩ }=N')(frm:Int):bZ sh frm xpc 0 N S=([⟨sh,0,ct0 2 0 0 true⟩],N',S'):=by
  rw[BL rfl];unfold iq;rw[show glk N.parts xpc.id=none from h0];dsimp only;rw[if_pos (show gOk S 2 0 (gL (268435456+N.hl) (ownM sh 0 xpc.legs))=true from h1)];exact Prod.ext rfl (Prod.ext h3 h2)
def xd1:eH 1 2 mp1 0 nd0 xb0=([mv1],nb1,xb1):=jS rfl ae ae (Bo (hold:=0) rfl q2.1 q2.2.1 rfl 0) (fun m hm=>by rw[List.mem_singleton.1 hm];decide)
def xd2:eH 1 2 mp1 0 nb1 xb1=([mv1],nb1,xb1):=jS rfl ae ae ((BL rfl).trans krStd0) (fun m hm=>by rw[List.mem_singleton.1 hm];decide)
def xbeg:delM 0 0 [⟨0,0,xpc⟩,mp1] na0 xa0=([mp1],na1,xa1):=by
  unfold delM;simp only[cn];rw[oQ (sh:=0) (m:=⟨0,0,xpc⟩) rfl,Bo (sh:=0) (hold:=0) (N:=na0) (S:=xa0) rfl q1.1 q1.2.1 rfl 0];simp only[cn];rw[oQ (sh:=0) (m:=⟨0,0,ct0 2 0 0 true⟩) rfl,uA (show(ct0 2 0 0 true).kind=2 from rfl),kQ (sh:=0) (m:=mp1) ae];rfl
def AY{sh id:Int}{o:OwM}{S S' : LedM}{fl:List Int}(h0:o.state=0)(ht:o.leg.ts≠sh)(h1:gOk S 6 0 (mvsN 268435456 0 o.leg.am)=true)(h2:gAft S 6 0 (mvsN 268435456 0 o.leg.am)=S')(h3:gIds S 6 0 (mvsN 268435456 0 o.leg.am)=fl):cN sh id 1 268435456 0 [o] S=([iH sh id { o with state:=1,flows:=fl }],[{ o with state:=1,flows:=fl }],S'):=by
  simp only[cN];rw[kB h0 ⟨rfl,ht⟩,if_pos h1,h2,h3];rfl
def FV{sh frm:Int}{N N' : NdM}{S S' : LedM}{o:OwM}{fl:List Int}(hp:glk N.parts 0=some ⟨0,268435456,[o]⟩)(h:cN sh 0 1 268435456 0 [o] S=([iH sh 0 { o with state:=1,flows:=fl }],[{ o with state:=1,flows:=fl }],S'))(hN:{ N with parts:=gins N.parts 0 ⟨1,268435456,[{ o with state:=1,flows:=fl }]⟩ }=N'):bZ sh frm (ct0 3 0 0 true) 0 N S=([iH sh 0 { o with state:=1,flows:=fl },⟨sh,0,ct0 4 0 0 false⟩],N',S'):=by
  rw[IU rfl];unfold fF;rw[show glk N.parts (ct0 3 0 0 true).id=some ⟨0,268435456,[o]⟩ from hp];dsimp only;rw[if_pos rfl,show(if(ct0 3 0 0 true).yes=true then(1:Int) else 2)=1 from rfl,show cN sh (ct0 3 0 0 true).id 1 268435456 0 [o] S=_ from h];exact Prod.ext rfl (Prod.ext hN rfl)
def nax:NdM:=⟨1,1,[(0,xe [0,1] [] true)],[(0,xp 0 lgA 0 0 [])],[]⟩
def nay:NdM:=⟨1,1,[(0,xe [0,1] [] true)],[(0,xp 1 lgA 0 1 [2])],[]⟩
def xd3:eH 0 2 mv1 0 na1 xa1=([mt1,md1],na2,xa2):=by
  have h1:bZ 0 1 (ct0 2 0 0 true) 0 na1 xa1=([⟨0,0,ct0 3 0 0 true⟩,md1],nax,xa1):=(uA rfl).trans krStd0;have h2:bZ 0 0 (ct0 3 0 0 true) 0 nax xa1=([mt1,⟨0,0,ct0 4 0 0 false⟩],nay,xa2):=FV (o:=⟨lgA,0,0,[]⟩) rfl (AY rfl ae q3.1 q3.2.1 q3.2.2) rfl;unfold eH;rw[if_pos (show mv1.to=0∧(0≤mv1.frm∧mv1.frm<2)∧mv1.frm≠0 by decide),show bZ 0 mv1.frm mv1.ct 0 na1 xa1=_ from h1];unfold delM;simp only[cn];rw[oQ (sh:=0) (m:=⟨0,0,ct0 3 0 0 true⟩) rfl,h2];simp only[cn];rw[kQ (sh:=0) (m:=mt1) ae];dsimp only;rw[oQ (sh:=0) (m:=⟨0,0,ct0 4 0 0 false⟩) rfl,BK (show(ct0 4 0 0 false).kind=4 from rfl),kQ (sh:=0) (m:=md1) ae];rfl
def xd4:eH 0 2 mv1 0 na2 xa2=([],na2,xa2):=jS rfl ae ae ((uA rfl).trans rfl) (fun m hm=>absurd hm ay)
def wy{sh frm:Int}{N N' : NdM}{S S' : LedM}{i:Int}{l:LegM}{f:Int}(hr:¬(0,i)∈N.recv)(hl:[f].length=l.am.length)(h1:gOk S 5 0 (impM l.to l.am [f])=true)(h2:gAft S 5 0 (impM l.to l.am [f])=S')(hN:{ N with recv:=N.recv++[(0,i)] }=N'):bZ sh frm ⟨5,0,i,false,[l],[f]⟩ 0 N S=([⟨sh,frm,ct0 6 0 i false⟩],N',S'):=by
  rw[IT rfl];unfold gC;rw[if_neg hr,if_pos ⟨rfl,hl⟩];dsimp only;rw[if_pos (show gOk S 5 0 (impM ([l][0]!).to ([l][0]!).am [f])=true from h1)];exact Prod.ext rfl (Prod.ext hN h2)
def xd5:eH 1 2 mt1 0 nb1 xb1=([mg0],nb2,xb2):=jS rfl ae ae (wy ae rfl q4.1 q4.2.1 rfl) (fun m hm=>by rw[List.mem_singleton.1 hm];decide)
def xd6:eH 1 2 md1 0 nb2 xb2=([mt0,mw0],nb3,xb3):=jS rfl ae ae (FV (o:=⟨lgB,1,0,[]⟩) rfl (AY rfl ae q5.1 q5.2.1 q5.2.2) rfl) (fun m hm=>by
  rcases List.mem_cons.1 hm with rfl|hm
  · decide
  · rw[List.mem_singleton.1 hm];decide)
def xd7:eH 0 2 mg0 0 na2 xa2=([],na3,xa2):=jS rfl ae ae ((BJ rfl).trans rfl) (fun m hm=>absurd hm ay)
def xd8:eH 0 2 mt0 0 na3 xa2=([mg1],na4,xa3):=jS rfl ae ae (wy ae rfl q6.1 q6.2.1 rfl) (fun m hm=>by rw[List.mem_singleton.1 hm];decide)
def xd9:eH 0 2 mw0 0 na4 xa3=([],na5,xa3):=jS rfl ae ae ((BK rfl).trans rfl) (fun m hm=>absurd hm ay)
def xd10:eH 1 2 mg1 0 nb3 xb3=([],nb4,xb3):=jS rfl ae ae ((BJ rfl).trans rfl) (fun m hm=>absurd hm ay)
def nB{N:NdM}{k:Int}(h:N.begun.map (·.1)++(N.parts.map (·.1)).filter (fun k=>decide ((glk N.begun k).isNone=true))=[k]):gx N=[k]:=by
  unfold gx nl;rw[h,List.mergeSort_singleton]
def Ka:eu 1 0 nd0 xb0=([],nd0,xb0):=by
  unfold eu;rw[show gx nd0=[] from List.mergeSort_nil];rfl
def JZ:eu 0 0 na1 xa1=([mp1],na1,xa1):=by
  unfold eu;rw[nB (N:=na1) (k:=0) rfl];have h:advU 0 0 0 na1 xa1=([mp1],na1,xa1):=sy 6 (l:=[mp1]) fun m hm=>by rw[List.mem_singleton.1 hm];decide
  simp only[cn];unfold adv1;rw[h];rfl
def JY:eu 0 0 na5 xa3=([],na5,xa3):=by
  unfold eu;rw[nB (N:=na5) (k:=0) rfl]
  have h:advP 0 0 0 na5 xa3=([],na5,xa3):=by
    unfold advP;rw[show glk na5.parts 0=some (xp 1 lgA 0 2 [2]) from rfl];dsimp only;rw[if_pos (.inl rfl)]
    have e:advW 0 0 1 268435456 0 ⟨lgA,0,2,[2]⟩ xa3=([],⟨lgA,0,2,[2]⟩,xa3):=by
      unfold advW;rw[if_neg ae,jP ae]
    have e2:runL (advW 0 0 (xp 1 lgA 0 2 [2]).state (xp 1 lgA 0 2 [2]).hold 0) (xp 1 lgA 0 2 [2]).legs xa3=([],[⟨lgA,0,2,[2]⟩],xa3):=by
      show runL (advW 0 0 1 268435456 0) [⟨lgA,0,2,[2]⟩] xa3=_;simp only[runL];rw[e];rfl
    rw[e2];rfl
  simp only[cn];unfold adv1;rw[show advU 0 0 0 na5 xa3=([],na5,xa3) from rfl,h];rfl
def JX:eu 1 0 nb4 xb3=([],nb4,xb3):=by
  unfold eu;rw[nB (N:=nb4) (k:=0) rfl]
  have h:advP 1 0 0 nb4 xb3=([],nb4,xb3):=by
    unfold advP;rw[show glk nb4.parts 0=some (xp 1 lgB 1 2 [4294967299]) from rfl];dsimp only;rw[if_pos (.inl rfl)]
    have e:advW 1 0 1 268435456 0 ⟨lgB,1,2,[4294967299]⟩ xb3=([],⟨lgB,1,2,[4294967299]⟩,xb3):=by
      unfold advW;rw[if_neg ae,jP ae]
    have e2:runL (advW 1 0 (xp 1 lgB 1 2 [4294967299]).state (xp 1 lgB 1 2 [4294967299]).hold 0) (xp 1 lgB 1 2 [4294967299]).legs xb3=([],[⟨lgB,1,2,[4294967299]⟩],xb3):=by
      show runL (advW 1 0 1 268435456 0) [⟨lgB,1,2,[4294967299]⟩] xb3=_;simp only[runL];rw[e];rfl
    rw[e2];rfl
  simp only[cn];unfold adv1;rw[show advU 1 0 0 nb4 xb3=([],nb4,xb3) from rfl,h];rfl
