/- Lemmas. -/
import Derived.Test.YtlgpgjdggilkgaaGreatDoorEcbd
set_option linter.all false
set_option maxHeartbeats 4000000
namespace Go.Proofs.YtlgpgjdggilkgaaGreatDoor
section
open Go.V
def mvsN(f t:Int)(am:List (Int×Int)):List MvM:=am.map fun a=>⟨f,t,a.1,a.2,[]⟩
def kf(f t:Int)(am:List (Int×Int)):(mvsA f t am).map MvV.m=mvsN f t am:=by unfold mvsA mvsN;rw[cX];rfl
def iY(f t:Int):∀am:List (Int×Int),mvK (mvsN f t am)=am.length
 | []=>rfl
 | a::am=>by
  have h:=iY f t am;show(0+1)+mvK (mvsN f t am)=am.length+1;omega
def esM(kind tick:Int)(ms:List MvM):StM:=⟨0,kind,0,tick,-1,0,ms⟩
def JP(kind tick:Int)(ms:List MvV)(mad:OA)(mcap:Nat):(estp kind tick ms mad mcap).m=esM kind tick (ms.map MvV.m):=rfl
noncomputable def gOk(S:LedM)(kind tick:Int)(ms:List MvM):Bool:=dB ((gTry S (esM kind tick ms)).1=0)
noncomputable def gIds(S:LedM)(kind tick:Int)(ms:List MvM):List Int:=if(gTry S (esM kind tick ms)).1=0 then kV S (esM kind tick ms) else[]
noncomputable abbrev gAft(S:LedM)(kind tick:Int)(ms:List MvM):LedM:=ce S (esM kind tick ms)
def mL{S:LedM}{kind tick:Int}{ms:List MvM}(h:gOk S kind tick ms=false):gAft S kind tick ms=S:=if_neg (fun q=>by unfold gOk at h;rw[bE q] at h;cases h)
def yr{sh:Int}{c:CatM}{k:Nat}{S:LedM}(hS:LdI sh c k S){kind tick:Int}{ms:List MvM}(hk:k+mvK ms≤2000)(h:gOk S kind tick ms=true):(gIds S kind tick ms).length=ms.length∧ms.length≤64:=by
 have he:(gTry S (esM kind tick ms)).1=0:=by
  refine Classical.byContradiction fun q=>?_;unfold gOk at h;rw[aW q] at h;cases h
 obtain⟨_,a2,a1⟩:=sw (s:=esM kind tick ms) hS.a hk he;have a0:ms.length≤64:=a2.2.2.2.1.2;refine⟨?_,a0⟩;unfold gIds kV;rw[if_pos he,show ce S (esM kind tick ms)=fV S (esM kind tick ms) from if_pos he];show((S.flows++(gTry S (esM kind tick ms)).2.flows).drop S.flows.length |>.map (·.id)).length=_;rw[List.drop_left,an,a1];rfl
def FE{sh:Int}{c:CatM}{k:Nat}{S:LedM}(hS:LdI sh c k S){kind tick:Int}{ms:List MvM}(hk:k+mvK ms≤2000):∀f∈gIds S kind tick ms,I64 f:=by
 intro f hf;unfold gIds at hf;split at hf
 ·unfold kV at hf;obtain⟨g,hg,rfl⟩:=List.mem_map.1 hf;have a0:=cG hg;obtain⟨j,hj,rfl⟩:=List.getElem_of_mem a0;have hA:=(hS.post (esM kind tick ms) hk).a;have h1:=(hA.fn j hj).1;rw[getElem!_of hj] at h1;have h2:=hA.g.flows;have h3:=hA.g.steps;have h4:=hA.g.shard;unfold I64;omega
 ·cases hf
attribute [local irreducible] G GO GP GPW GPK GF GE Ev Ef EfR Ent CB GB V.Enters
def jx{L:LH}(nb lb:Nat)(sh shs cnt hl:Int)(mb mp mr:Nat)(c:CatM)(k:Nat)(S:LedM)(hS:LdI sh c k S)(kind tick:Int)(ms:List MvV)(mad:OA)(mcap:Nat)(hs:StInG (estp kind tick ms mad mcap))(hk:k+mvK (ms.map MvV.m)≤2000) :
  Tri Tryz.prog 146 #[ax nb,ac kind,ac tick,ag mad ms.length mcap] (osl cj 5 tMv mad mcap ms::allP mvP ms::obj nb tNd (ndC lb sh shs cnt hl mb mp mr)::aS lb S::L) (fun v L'=>∃fad fcap,v=.tuple #[ag fad (gIds S kind tick (ms.map MvV.m)).length fcap,.bool (gOk S kind tick (ms.map MvV.m))]∧L' = osl (encZ .i64) 1 tInt fad fcap (gIds S kind tick (ms.map MvV.m))::obj nb tNd (ndC lb sh shs cnt hl mb mp mr)::aS lb (gAft S kind tick (ms.map MvV.m))::L):=by
 have a1:StInG (estp kind tick [] none 0):=⟨aw _,hs.rule,fun m hm=>absurd hm ay,fun m hm=>absurd hm ay,fun m hm=>absurd hm ay⟩;refine Tri.d8 (φ:=ms.length≤mcap) (tB (L:=[]) nb lb sh shs cnt hl mb mp mr c k S hS kind tick [] none 0 a1 (aq _) (by show k+0≤2000;omega)).enters (fun θ R w s=>(kE (ad:=mad) (xs:=ms) θ R w s).1) fun a0=>?_;have h:=tB (L:=L) nb lb sh shs cnt hl mb mp mr c k S hS kind tick ms mad mcap hs a0 hk;simp only[JP] at h;refine(h.pre (L:=osl cj 5 tMv mad mcap ms::allP mvP ms::obj nb tNd (ndC lb sh shs cnt hl mb mp mr)::aS lb S::L) ?_).conseq ?_
 ·refine Ent.freezeSl.trans ?_;exact ah
 rintro v L' (⟨h1,fad,fcap,rfl,rfl⟩|⟨h1,rfl,rfl⟩)
 ·refine⟨_,⟨fad,fcap,?_,rfl⟩,?_⟩
  ·unfold gIds gOk;rw[if_pos h1,bE h1]
  ·unfold gIds;rw[if_pos h1];exact ah
 ·refine⟨_,⟨none,0,?_,rfl⟩,?_⟩
  ·unfold gIds gOk;rw[if_neg h1,aW h1];rfl
  ·unfold gIds gAft ce;rw[if_neg h1,if_neg h1];refine(Ent.c8 (encZ .i64) 1 tInt).trans ?_;exact ah
noncomputable def ee(sh id pst hold tick:Int)(o:OwM)(S:LedM):List MsM×OwM×LedM :=
 if o.state≠0 then([],o,S)
 else if pst=1∧o.leg.ts≠sh then
  if gOk S 6 tick (mvsN hold 0 o.leg.am)=true then([iH sh id { o with state:=1,flows:=gIds S 6 tick (mvsN hold 0 o.leg.am) }],{ o with state:=1,flows:=gIds S 6 tick (mvsN hold 0 o.leg.am) },gAft S 6 tick (mvsN hold 0 o.leg.am)) else([],o,S)
 else if gOk S 2 tick (mvsN hold (if pst=2 then o.leg.fr else o.leg.to) o.leg.am)=true then([],{ o with state:=2 },gAft S 2 tick (mvsN hold (if pst=2 then o.leg.fr else o.leg.to) o.leg.am)) else([],o,S)
structure PtV where
 b:Nat
 state:Int
 hold:Int
 legs:List OwV
 lad:OA
 lcap:Nat
 deriving Inhabited
def ptC(p:PtV):LV:=[ac p.state,ac p.hold,ag p.lad p.legs.length p.lcap]
structure PtM where
 state:Int
 hold:Int
 legs:List OwM
 deriving Inhabited,DecidableEq
def PtV.m(p:PtV):PtM:=⟨p.state,p.hold,p.legs.map OwV.m⟩
def jP{sh id pst hold tick:Int}{o:OwM}{S:LedM}(h:o.state≠0):ee sh id pst hold tick o S=([],o,S):=if_pos h
def kB{sh id pst hold tick:Int}{o:OwM}{S:LedM}(h:o.state=0)(hB:pst=1∧o.leg.ts≠sh):ee sh id pst hold tick o S=if gOk S 6 tick (mvsN hold 0 o.leg.am)=true then([iH sh id { o with state:=1,flows:=gIds S 6 tick (mvsN hold 0 o.leg.am) }],{ o with state:=1,flows:=gIds S 6 tick (mvsN hold 0 o.leg.am) },gAft S 6 tick (mvsN hold 0 o.leg.am)) else([],o,S):=by
 unfold ee;rw[if_neg (fun q=>q h),if_pos hB]
def jc{sh id pst hold tick to:Int}{o:OwM}{S:LedM}(h:o.state=0)(hB:¬(pst=1∧o.leg.ts≠sh))(ht:to=if pst=2 then o.leg.fr else o.leg.to):ee sh id pst hold tick o S=if gOk S 2 tick (mvsN hold to o.leg.am)=true then([],{ o with state:=2 },gAft S 2 tick (mvsN hold to o.leg.am)) else([],o,S):=by
 subst ht;unfold ee;rw[if_neg (fun q=>q h),if_neg hB]
def mF{α:Type}[Inhabited α]{l:List α}{i:Nat}(h:i<l.length):l.set i l[i]! = l:=by
 rw[getElem!_of h];exact List.set_getElem_self h
def HL{α:Type}[Inhabited α]{l:List α}{i:Nat}(h:i<l.length)(x:α):(l.set i x)[i]! = x:=by
 rw[getElem!_of (by rw[bH];exact h)];exact List.getElem_set_self _
def Ent.j6{α:Type}{f:α→HP}(hf:∀x,PersM (f x)){l:List α}{i:Nat}{x:α}{L:LH}:Ent (f x::allP f l::L) (allP f (l.set i x)::L) :=
 (Ent.j5 hf).trans (Ent.g9 fun y hy=>by
  rcases dj hy with h|h
  ·exact au _ h
  ·exact h▸av)
def Ent.j8{L:LH}(f t:Int):∀am:List (Int×Int),Ent L (allP mvP (mvsA f t am)::L)
 | []=>Ent.c7 mvP
 | a::am=>(Ent.j8 f t am).trans ((Ent.d9 aG 3 none).trans (Ent.j5 (f:=mvP) (x:=mvN f t a.1 a.2) kl))
def nk(kind tick f t:Int)(am:List (Int×Int))(h:am.length≤1000)(mad:OA)(mcap:Nat):StInG (estp kind tick (mvsA f t am) mad mcap):=by
 have hm:∀m∈mvsA f t am,m.m.parts=[]:=fun m hm=>by
  obtain⟨a,_,rfl⟩:=List.mem_map.1 hm;rfl
 refine⟨?_,by show I64 (-1);unfold I64;omega,fun m h1=>?_,fun m h1=>?_,fun m h1 p hp=>?_⟩
 ·show(mvsA f t am).length≤1000000;unfold mvsA;rw[an];omega
 ·rw[hm m h1];exact aw _
 ·rw[hm m h1];exact aw _
 ·rw[hm m h1] at hp;cases hp
abbrev Df:=XF []
abbrev De:=XD [.ev 10,.ef 11,.ef 12,.ev 13,.ev 14,.ev 15,.ev 16,.ev 17]
abbrev Ao:=XD [.ev 10,.ev 11,.ef 12,.ef 13,.ev 14,.ev 15,.ev 16,.ev 17,.ev 18]
def Sl{φ ψ:Prop}(k:ψ)(h:Hid ψ→φ:=by intro k;(repeat (first|refine aa ?_|intro zzz|refine G.dr 104 3 Df ?_|refine G.dr 104 4 De ?_|refine G.dr 104 12 Ao ?_));(repeat revert zzz);exact Hid.out k):φ:=h ⟨k⟩
def mN{L:LH}(nb lb:Nat)(sh shs cnt hl:Int)(mb mp mr:Nat)(c:CatM)(k:Nat)(S:LedM)(hS:LdI sh c k S)(id:Int)(b1:I64 id)(pb:Nat)(pst hold:Int)(lad:OA)(lcap:Nat)(hA:uc lad)(os:List OwV)(i:Nat)(hi:i<os.length)(a4:OwOk os[i]!.m)(tick:Int)(hk:os[i]!.state=0→k+os[i]!.leg.m.am.length≤2000) :
  Tri Tryz.prog 97 #[ax nb,ac id,ax pb,.pointer (elP lad 8 i 0),ac tick] (obj nb tNd (ndC lb sh shs cnt hl mb mp mr)::obj pb tPt (ptC ⟨pb,pst,hold,os,lad,lcap⟩)::osl dH 8 tOw lad lcap os::allP owP os::aS lb S::L) (fun v L'=>∃ad cap ms o',v=ag ad ms.length cap∧(ms.map (·.m),o'.m,(ee sh id pst hold tick os[i]!.m S).2.2)=ee sh id pst hold tick os[i]!.m S∧L' = osl bC 3 tMs ad cap ms::allP msP ms::obj nb tNd (ndC lb sh shs cnt hl mb mp mr)::obj pb tPt (ptC ⟨pb,pst,hold,os,lad,lcap⟩)::osl dH 8 tOw lad lcap (os.set i o')::allP owP (os.set i o')::aS lb ((ee sh id pst hold tick os[i]!.m S).2.2)::L):=by
 have a1:os[i]!.leg.m.am.length≤1000:=by have:=a4.1.2.1;simp only[OwV.m] at this;omega
 have a0:os[i]!∈os:=by rw[getElem!_of hi];exact bR hi
 refine Tri.bd ?_;refine G.ent (Ent.at (A:=allP owP os) ((Ent.c9 a0).trans EY)) ?_;simp only[ndC,ptC];refine Sl ?_;intros;refine GO.ev (Ev.c7 rfl hA) ae ?_;by_cases h0:os[i]!.state=0
 case neg =>
  have hW:=jP (sh:=sh) (id:=id) (pst:=pst) (tick:=tick) (hold:=hold) (S:=S) (o:=os[i]!.m) h0;refine Sl ?_;intros;rw[hW];refine KX.a8 aA ?_ ⟨none,0,[],os[i]!,rfl,rfl,rfl⟩;rw[mF hi];exact(Ent.c8 bC 3 tMs).trans ((Ent.c7 msP).trans ah)
 replace hk:=hk h0;by_cases a7:pst=1
 ·by_cases a9:os[i]!.leg.m.ts=sh
  ·have hB:¬(pst=1∧os[i]!.m.leg.ts≠sh):=fun q=>q.2 a9;refine Sl ?_;intros;refine GPW.evP (Ev.c7 rfl hA) ae ?_;refine Sl ?_;intros;refine GO.ev (Ev.c7 rfl hA) ae ?_;have a3:¬pst=2:=ab;refine Sl ?_;intros;refine GPW.evP (Ev.c7 rfl hA) ae ?_;refine Sl ?_;intros;refine GPW.ca (jB os[i]!.leg.ad _ _ os[i]!.leg.m.am rfl a1 hold os[i]!.leg.m.to) ?_;rintro _ _⟨mad,mcap,rfl,rfl⟩;refine Sl ?_;intros;refine GPW.ent (L':=osl cj 5 tMv mad mcap (mvsA hold os[i]!.leg.m.to os[i]!.leg.m.am)::allP mvP (mvsA hold os[i]!.leg.m.to os[i]!.leg.m.am)::obj nb tNd [ax lb,ac sh,ac shs,ac cnt,ac hl,.map (some mb),.map (some mp),.map (some mr)]::aS lb S::(legP os[i]!.leg::isl (encZ .i64) 1 os[i]!.fad os[i]!.flows::obj pb tPt [ac pst,ac hold,ag lad os.length lcap]::osl dH 8 tOw lad lcap os::allP owP os::L)) ((Ent.j8 hold os[i]!.leg.m.to os[i]!.leg.m.am).trans ah) ?_;refine GPW.ca (jx nb lb sh shs cnt hl mb mp mr c k S hS 2 tick (mvsA hold os[i]!.leg.m.to os[i]!.leg.m.am) mad mcap (nk _ _ _ _ _ a1 _ _) (by rw[kf,iY];exact hk)) ?_;rw[kf];rintro _ _⟨fad,fcap,rfl,rfl⟩;simp only[ndC];cases hgo:gOk S 2 tick (mvsN hold os[i]!.leg.m.to os[i]!.leg.m.am)
   ·have hW:=jc (sh:=sh) (id:=id) (pst:=pst) (tick:=tick) (hold:=hold) (S:=S) (to:=os[i]!.leg.m.to) (o:=os[i]!.m) h0 hB (by rw[if_neg a3];rfl);rw[if_neg (by rw[show mvsN hold os[i]!.leg.m.to os[i]!.m.leg.am=mvsN hold os[i]!.leg.m.to os[i]!.leg.m.am from rfl,hgo];exact cS)] at hW;have a2:=mL hgo;rw[a2];refine Sl ?_;intros;rw[hW];refine KX.a8 aA ?_ ⟨none,0,[],os[i]!,rfl,rfl,rfl⟩;rw[mF hi];refine(Ent.c8 bC 3 tMs).trans ((Ent.c7 msP).trans ?_);exact ah
   ·have hW:=jc (sh:=sh) (id:=id) (pst:=pst) (tick:=tick) (hold:=hold) (S:=S) (to:=os[i]!.leg.m.to) (o:=os[i]!.m) h0 hB (by rw[if_neg a3];rfl);rw[if_pos (by exact hgo)] at hW;refine Sl ?_;intros;refine GO.ev (Ev.c7 rfl hA) ae ?_;refine Sl ?_;intros;refine GO.efu (Ef.f7 (enc:=dH) (e:=(⟨os[i]!.leg,os[i]!.index,2,os[i]!.flows,os[i]!.fad,os[i]!.fcap⟩:OwV)) rfl rfl rfl rfl hi ae) ?_;rintro _ _ rfl;refine Sl ?_;intros;rw[hW];refine KX.a8 aA ?_ ⟨none,0,[],(⟨os[i]!.leg,os[i]!.index,2,os[i]!.flows,os[i]!.fad,os[i]!.fcap⟩:OwV),rfl,rfl,rfl⟩;refine(Ent.c8 bC 3 tMs).trans ((Ent.c7 msP).trans ?_);refine(Ent.at (A:=allP owP os) ((Ent.c9 a0).trans (Ent.j6 (f:=owP) (x:=(⟨os[i]!.leg,os[i]!.index,2,os[i]!.flows,os[i]!.fad,os[i]!.fcap⟩:OwV)) (i:=i) oT))).trans ?_;dsimp only[OwV.m];exact ah
  ·have hB:pst=1∧os[i]!.m.leg.ts≠sh:=⟨a7,a9⟩;refine Sl ?_;intros;refine GPW.evP (Ev.c7 rfl hA) ae ?_;refine Sl ?_;intros;refine GPW.evP (Ev.c7 rfl hA) ae ?_;refine Sl ?_;intros;refine GPW.ca (jB os[i]!.leg.ad _ _ os[i]!.leg.m.am rfl a1 hold 0) ?_;rintro _ _⟨mad,mcap,rfl,rfl⟩;refine Sl ?_;intros;refine GPW.ent (L':=osl cj 5 tMv mad mcap (mvsA hold 0 os[i]!.leg.m.am)::allP mvP (mvsA hold 0 os[i]!.leg.m.am)::obj nb tNd [ax lb,ac sh,ac shs,ac cnt,ac hl,.map (some mb),.map (some mp),.map (some mr)]::aS lb S::(legP os[i]!.leg::isl (encZ .i64) 1 os[i]!.fad os[i]!.flows::obj pb tPt [ac pst,ac hold,ag lad os.length lcap]::osl dH 8 tOw lad lcap os::allP owP os::L)) ((Ent.j8 hold 0 os[i]!.leg.m.am).trans ah) ?_;refine GPW.ca (jx nb lb sh shs cnt hl mb mp mr c k S hS 6 tick (mvsA hold 0 os[i]!.leg.m.am) mad mcap (nk _ _ _ _ _ a1 _ _) (by rw[kf,iY];exact hk)) ?_;rw[kf];rintro _ _⟨fad,fcap,rfl,rfl⟩;simp only[ndC];cases hgo:gOk S 6 tick (mvsN hold 0 os[i]!.leg.m.am)
   ·have hW:=kB (sh:=sh) (id:=id) (pst:=pst) (tick:=tick) (hold:=hold) (S:=S) (o:=os[i]!.m) h0 hB;rw[if_neg (by rw[show mvsN hold 0 os[i]!.m.leg.am=mvsN hold 0 os[i]!.leg.m.am from rfl,hgo];exact cS)] at hW;have a2:=mL hgo;rw[a2];refine Sl ?_;intros;rw[hW];refine KX.a8 aA ?_ ⟨none,0,[],os[i]!,rfl,rfl,rfl⟩;rw[mF hi];refine(Ent.c8 bC 3 tMs).trans ((Ent.c7 msP).trans ?_);exact ah
   ·have hW:=kB (sh:=sh) (id:=id) (pst:=pst) (tick:=tick) (hold:=hold) (S:=S) (o:=os[i]!.m) h0 hB;rw[if_pos (by exact hgo)] at hW;refine Sl ?_;intros;refine GO.ev (Ev.c7 rfl hA) ae ?_;refine Sl ?_;intros;refine GO.efu (Ef.f7 (enc:=dH) (e:=(⟨os[i]!.leg,os[i]!.index,1,os[i]!.flows,os[i]!.fad,os[i]!.fcap⟩:OwV)) rfl rfl rfl rfl hi ae) ?_;rintro _ _ rfl;refine Sl ?_;intros;refine GO.ev (Ev.c7 rfl hA) ae ?_;refine GO.ev (Ev.d9 rfl (by rw[bH];exact hi)) ae ?_;refine Sl ?_;intros;refine GO.efu (Ef.f7 (enc:=dH) (e:=(⟨os[i]!.leg,os[i]!.index,1,gIds S 6 tick (mvsN hold 0 os[i]!.leg.m.am),fad,fcap⟩:OwV)) rfl rfl (by rw[HL hi];rfl) rfl (by rw[bH];exact hi) ae) ?_;rintro _ _ rfl;rw[List.set_set];have b2:=yr hS (show k+mvK (mvsN hold 0 os[i]!.leg.m.am)≤2000 by rw[iY];exact hk) hgo;have b0:=FE hS (kind:=6) (tick:=tick) (show k+mvK (mvsN hold 0 os[i]!.leg.m.am)≤2000 by rw[iY];exact hk);generalize he2:(⟨os[i]!.leg,os[i]!.index,1,gIds S 6 tick (mvsN hold 0 os[i]!.leg.m.am),fad,fcap⟩:OwV)=e2 at *;have a5:OwOk e2.m:=by rw[←he2];exact⟨a4.1,a4.2.1,by show(gIds S 6 tick (mvsN hold 0 os[i]!.leg.m.am)).length≤1000;omega,b0⟩
    refine GO.ent (L':=osl dH 8 tOw lad lcap (os.set i e2)::allP owP (os.set i e2)::owP e2::obj nb tNd [ax lb,ac sh,ac shs,ac cnt,ac hl,.map (some mb),.map (some mp),.map (some mr)]::aS lb (gAft S 6 tick (mvsN hold 0 os[i]!.leg.m.am))::obj pb tPt [ac pst,ac hold,ag lad os.length lcap]::L) ?_ ?_
    ·refine(Ent.at (A:=osl (encZ .i64) 1 tInt fad fcap (gIds S 6 tick (mvsN hold 0 os[i]!.leg.m.am))) Ent.freezeSl).trans ?_;refine Ent.trans (B:=owP e2::allP owP os::osl dH 8 tOw lad lcap (os.set i e2)::obj nb tNd [ax lb,ac sh,ac shs,ac cnt,ac hl,.map (some mb),.map (some mp),.map (some mr)]::aS lb (gAft S 6 tick (mvsN hold 0 os[i]!.leg.m.am))::obj pb tPt [ac pst,ac hold,ag lad os.length lcap]::L) ?_ ?_
     ·refine Ent.trans (B:=legP os[i]!.leg::isl (encZ .i64) 1 fad (gIds S 6 tick (mvsN hold 0 os[i]!.leg.m.am))::allP owP os::osl dH 8 tOw lad lcap (os.set i e2)::obj nb tNd [ax lb,ac sh,ac shs,ac cnt,ac hl,.map (some mb),.map (some mp),.map (some mr)]::aS lb (gAft S 6 tick (mvsN hold 0 os[i]!.leg.m.am))::obj pb tPt [ac pst,ac hold,ag lad os.length lcap]::L) ah ?_;rw[←he2];exact Ent.f8 (fC _) (bO _ _ _ _)
     ·refine(Ent.dup (oT e2).pers).trans ((Ent.a8 (Ent.j6 (f:=owP) (i:=i) oT)).trans ?_);exact ah
    refine Sl ?_;intros;refine GO.ent (L':=obj nb tNd [ax lb,ac sh,ac shs,ac cnt,ac hl,.map (some mb),.map (some mp),.map (some mr)]::owP e2::(osl dH 8 tOw lad lcap (os.set i e2)::allP owP (os.set i e2)::aS lb (gAft S 6 tick (mvsN hold 0 os[i]!.leg.m.am))::obj pb tPt [ac pst,ac hold,ag lad os.length lcap]::L)) ah ?_;refine GO.ca (pB nb lb sh shs cnt hl mb mp mr id b1 lad hA (os.set i e2) i (by rw[bH];exact hi) e2 (HL hi e2) a5) ?_;rintro _ _⟨y,rfl,hy,rfl⟩;simp only[ndC];refine Sl ?_;intros;rename_i a6;rw[hW];refine KX.a8 aA ?_ ⟨some ⟨a6,0,none⟩,1,[y],e2,rfl,?_,rfl⟩
    ·refine(Ent.at (A:=msP y) (Ent.d8 (f:=msP) fq)).trans ?_;refine(Ent.at (A:=obj a6 tMs [ac y.m.frm,ac y.m.to,ag y.ad (ctB y.m.ct).length y.cap]) (Ent.f7 (enc:=bC) (sz:=3) (xs:=[y]) (n:=1) (by simp only[aO,cW,aH];rfl) rfl (by intro x hx;rfl) ae)).trans ?_;dsimp only[OwV.m];exact ah
    ·rw[aF,bG,hy,←he2];rfl
 ·have hB:¬(pst=1∧os[i]!.m.leg.ts≠sh):=fun q=>a7 q.1;refine Sl ?_;intros;refine GO.ev (Ev.c7 rfl hA) ae ?_;by_cases a3:pst=2
  ·refine Sl ?_;intros;refine GO.ev (Ev.c7 rfl hA) ae ?_;refine Sl ?_;intros;refine GPW.evP (Ev.c7 rfl hA) ae ?_;refine Sl ?_;intros;refine GPW.ca (jB os[i]!.leg.ad _ _ os[i]!.leg.m.am rfl a1 hold os[i]!.leg.m.fr) ?_;rintro _ _⟨mad,mcap,rfl,rfl⟩;refine Sl ?_;intros;refine GPW.ent (L':=osl cj 5 tMv mad mcap (mvsA hold os[i]!.leg.m.fr os[i]!.leg.m.am)::allP mvP (mvsA hold os[i]!.leg.m.fr os[i]!.leg.m.am)::obj nb tNd [ax lb,ac sh,ac shs,ac cnt,ac hl,.map (some mb),.map (some mp),.map (some mr)]::aS lb S::(legP os[i]!.leg::isl (encZ .i64) 1 os[i]!.fad os[i]!.flows::obj pb tPt [ac pst,ac hold,ag lad os.length lcap]::osl dH 8 tOw lad lcap os::allP owP os::L)) ((Ent.j8 hold os[i]!.leg.m.fr os[i]!.leg.m.am).trans ah) ?_;refine GPW.ca (jx nb lb sh shs cnt hl mb mp mr c k S hS 2 tick (mvsA hold os[i]!.leg.m.fr os[i]!.leg.m.am) mad mcap (nk _ _ _ _ _ a1 _ _) (by rw[kf,iY];exact hk)) ?_;rw[kf];rintro _ _⟨fad,fcap,rfl,rfl⟩;simp only[ndC];cases hgo:gOk S 2 tick (mvsN hold os[i]!.leg.m.fr os[i]!.leg.m.am)
   ·have hW:=jc (sh:=sh) (id:=id) (pst:=pst) (tick:=tick) (hold:=hold) (S:=S) (to:=os[i]!.leg.m.fr) (o:=os[i]!.m) h0 hB (by rw[if_pos a3];rfl);rw[if_neg (by rw[show mvsN hold os[i]!.leg.m.fr os[i]!.m.leg.am=mvsN hold os[i]!.leg.m.fr os[i]!.leg.m.am from rfl,hgo];exact cS)] at hW;have a2:=mL hgo;rw[a2];refine Sl ?_;intros;rw[hW];refine KX.a8 aA ?_ ⟨none,0,[],os[i]!,rfl,rfl,rfl⟩;rw[mF hi];refine(Ent.c8 bC 3 tMs).trans ((Ent.c7 msP).trans ?_);exact ah
   ·have hW:=jc (sh:=sh) (id:=id) (pst:=pst) (tick:=tick) (hold:=hold) (S:=S) (to:=os[i]!.leg.m.fr) (o:=os[i]!.m) h0 hB (by rw[if_pos a3];rfl);rw[if_pos (by exact hgo)] at hW;refine Sl ?_;intros;refine GO.ev (Ev.c7 rfl hA) ae ?_;refine Sl ?_;intros;refine GO.efu (Ef.f7 (enc:=dH) (e:=(⟨os[i]!.leg,os[i]!.index,2,os[i]!.flows,os[i]!.fad,os[i]!.fcap⟩:OwV)) rfl rfl rfl rfl hi ae) ?_;rintro _ _ rfl;refine Sl ?_;intros;rw[hW];refine KX.a8 aA ?_ ⟨none,0,[],(⟨os[i]!.leg,os[i]!.index,2,os[i]!.flows,os[i]!.fad,os[i]!.fcap⟩:OwV),rfl,rfl,rfl⟩;refine(Ent.c8 bC 3 tMs).trans ((Ent.c7 msP).trans ?_);refine(Ent.at (A:=allP owP os) ((Ent.c9 a0).trans (Ent.j6 (f:=owP) (x:=(⟨os[i]!.leg,os[i]!.index,2,os[i]!.flows,os[i]!.fad,os[i]!.fcap⟩:OwV)) (i:=i) oT))).trans ?_;dsimp only[OwV.m];exact ah
  ·refine Sl ?_;intros;refine GPW.evP (Ev.c7 rfl hA) ae ?_;refine Sl ?_;intros;refine GPW.ca (jB os[i]!.leg.ad _ _ os[i]!.leg.m.am rfl a1 hold os[i]!.leg.m.to) ?_;rintro _ _⟨mad,mcap,rfl,rfl⟩;refine Sl ?_;intros;refine GPW.ent (L':=osl cj 5 tMv mad mcap (mvsA hold os[i]!.leg.m.to os[i]!.leg.m.am)::allP mvP (mvsA hold os[i]!.leg.m.to os[i]!.leg.m.am)::obj nb tNd [ax lb,ac sh,ac shs,ac cnt,ac hl,.map (some mb),.map (some mp),.map (some mr)]::aS lb S::(legP os[i]!.leg::isl (encZ .i64) 1 os[i]!.fad os[i]!.flows::obj pb tPt [ac pst,ac hold,ag lad os.length lcap]::osl dH 8 tOw lad lcap os::allP owP os::L)) ((Ent.j8 hold os[i]!.leg.m.to os[i]!.leg.m.am).trans ah) ?_;refine GPW.ca (jx nb lb sh shs cnt hl mb mp mr c k S hS 2 tick (mvsA hold os[i]!.leg.m.to os[i]!.leg.m.am) mad mcap (nk _ _ _ _ _ a1 _ _) (by rw[kf,iY];exact hk)) ?_;rw[kf];rintro _ _⟨fad,fcap,rfl,rfl⟩;simp only[ndC];cases hgo:gOk S 2 tick (mvsN hold os[i]!.leg.m.to os[i]!.leg.m.am)
   ·have hW:=jc (sh:=sh) (id:=id) (pst:=pst) (tick:=tick) (hold:=hold) (S:=S) (to:=os[i]!.leg.m.to) (o:=os[i]!.m) h0 hB (by rw[if_neg a3];rfl);rw[if_neg (by rw[show mvsN hold os[i]!.leg.m.to os[i]!.m.leg.am=mvsN hold os[i]!.leg.m.to os[i]!.leg.m.am from rfl,hgo];exact cS)] at hW;have a2:=mL hgo;rw[a2];refine Sl ?_;intros;rw[hW];refine KX.a8 aA ?_ ⟨none,0,[],os[i]!,rfl,rfl,rfl⟩;rw[mF hi];refine(Ent.c8 bC 3 tMs).trans ((Ent.c7 msP).trans ?_);exact ah
   ·have hW:=jc (sh:=sh) (id:=id) (pst:=pst) (tick:=tick) (hold:=hold) (S:=S) (to:=os[i]!.leg.m.to) (o:=os[i]!.m) h0 hB (by rw[if_neg a3];rfl);rw[if_pos (by exact hgo)] at hW;refine Sl ?_;intros;refine GO.ev (Ev.c7 rfl hA) ae ?_;refine Sl ?_;intros;refine GO.efu (Ef.f7 (enc:=dH) (e:=(⟨os[i]!.leg,os[i]!.index,2,os[i]!.flows,os[i]!.fad,os[i]!.fcap⟩:OwV)) rfl rfl rfl rfl hi ae) ?_;rintro _ _ rfl;refine Sl ?_;intros;rw[hW];refine KX.a8 aA ?_ ⟨none,0,[],(⟨os[i]!.leg,os[i]!.index,2,os[i]!.flows,os[i]!.fad,os[i]!.fcap⟩:OwV),rfl,rfl,rfl⟩;refine(Ent.c8 bC 3 tMs).trans ((Ent.c7 msP).trans ?_);refine(Ent.at (A:=allP owP os) ((Ent.c9 a0).trans (Ent.j6 (f:=owP) (x:=(⟨os[i]!.leg,os[i]!.index,2,os[i]!.flows,os[i]!.fad,os[i]!.fcap⟩:OwV)) (i:=i) oT))).trans ?_;dsimp only[OwV.m];exact ah
end
section
open Go.V
structure ExM where
 legs:List LegM
 givers:List Int
 until_:Int
 voted:List Int
 told:List Int
 dec:Bool
 takes:Bool
 deriving Inhabited,DecidableEq
def ExV.m(x:ExV):ExM:=⟨x.legs.map (·.m),x.givers,x.until_,x.voted,x.told,x.dec,x.takes⟩
structure NdM where
 cnt:Int
 hl:Int
 begun:List (Int×ExM)
 parts:List (Int×PtM)
 recv:List (Int×Int)
 deriving Inhabited
def exO(x:ExV):HP:=cm [obj x.b tEx (exC x),gmap kvI bT x.mv (tfL x.voted),gmap kvI bT x.mt (tfL x.told),isl bA 5 x.lad x.legs,allP legP x.legs,isl (encZ .i64) 1 x.gad x.givers]
def ptO(p:PtV):HP:=cm [obj p.b tPt (ptC p),osl dH 8 tOw p.lad p.lcap p.legs,allP owP p.legs]
def exF(p:Int×ExV):HP:=exO p.2
def ptF(p:Int×PtV):HP:=ptO p.2
def cJ(x:ExV):Value:=.pointer (some ⟨x.b,0,none⟩)
def cL(p:PtV):Value:=.pointer (some ⟨p.b,0,none⟩)
def tfK(l:List (Int×Int)):List ((Int×Int)×Bool):=l.map fun g=>(g,true)
structure NdV where
 mb:Nat
 mp:Nat
 mr:Nat
 cnt:Int
 hl:Int
 begun:List (Int×ExV)
 parts:List (Int×PtV)
 recv:List (Int×Int)
 deriving Inhabited
def mapV{κ α β:Type}(f:α→β)(l:List (κ×α)):List (κ×β):=l.map fun p=>(p.1,f p.2)
def NdV.m(n:NdV):NdM:=⟨n.cnt,n.hl,mapV ExV.m n.begun,mapV PtV.m n.parts,n.recv⟩
def ndL(nb lb:Nat)(sh shs:Int)(n:NdV)(L:LH):LH:=obj nb tNd (ndC lb sh shs n.cnt n.hl n.mb n.mp n.mr)::gmap kvI cJ n.mb n.begun::bigO exF n.begun::gmap kvI cL n.mp n.parts::bigO ptF n.parts::gmap kvP bT n.mr (tfK n.recv)::L
section
variable {κ α β:Type}[DecidableEq κ]
def sj(f:α→β)(k:κ):∀l:List (κ×α),glk (mapV f l) k=(glk l k).map f
 | []=>rfl
 | p::l=>by
  obtain⟨q,a⟩:=p;have ih:=sj f k l;unfold glk mapV at ih ⊢;rw[aF,cx,cx];by_cases h:k=q
  ·subst h;simp
  ·have h2:(k == q)=false:=by simpa using h
   simp only[h2,ih]
omit [DecidableEq κ] in
def jK(f:α→β)(l:List (κ×α)):(mapV f l).map (·.1)=l.map (·.1):=by
 unfold mapV;rw[cX];rfl
def kG(f:α→β)(k:κ)(a:α)(l:List (κ×α)):mapV f (gins l k a)=gins (mapV f l) k (f a):=by
 have a0:(mapV f l).any (fun p=>p.1 == k)=l.any (fun p=>p.1 == k):=by
  unfold mapV;rw[List.any_map];rfl
 unfold gins;rw[a0];split
 ·unfold mapV;rw[cX,cX];refine dI fun p _=>?_;simp only[Function.comp_apply];split<;>rfl
 ·unfold mapV;rw[aJ];rfl
def su{l:List (κ×α)}{k:κ}{x:α}(h:glk l k=some x)(a:α):gins l k a=l.map fun p=>if p.1=k then(k,a) else p:=by
 unfold gins;rw[if_pos];refine List.any_eq_true.2 ⟨(k,x),cu h,by simp⟩
def sr{l:List (κ×α)}{k:κ}(h:glk l k=none)(a:α):gins l k a=l++[(k,a)]:=by
 unfold gins;rw[if_neg];intro q;obtain⟨p,h1,h2⟩:=List.any_eq_true.1 q;exact jL h (List.mem_map.2 ⟨p,h1,by simpa using h2⟩)
def Ent.l7{kv:κ→Value}{enc:α→Value}{b:Nat}{l:List (κ×α)}{k:κ}{x a:α}(h:glk l k=some x)(hn:(l.map (·.1)).Nodup)(he:enc a=enc x){L:LH}:Ent (gmap kv enc b l::L) (gmap kv enc b (gins l k a)::L):=fun θ R w s=>by
 obtain⟨es,a0,h1,h2,h3,h4,h5,s2⟩:=Sat.gmap_parts (L:=L++R) s;refine Sat.c8 s2 ?_ (jN h2) h3 h4 h5;rw[h1,su h,cX];refine dI fun p hp=>?_;simp only[Function.comp_apply];by_cases q:p.1=k
 ·rw[if_pos q];have a1:glk l p.1=some p.2:=jW hn hp;rw[q,h] at a1;obtain rfl:x=p.2:=by simpa using a1
  rw[he,q]
 ·rw[if_neg q]
def Ent.l0{f:κ×α→HP}{l:List (κ×α)}{k:κ}{x:α}(hn:(l.map (·.1)).Nodup)(h:glk l k=some x){L:LH}:Ent (bigO f l::L) (f (k,x)::bigO f (gera l k)::L):=(Ent.j7 (nD hn h)).trans Ent.bigO_uncons
def Ent.j9{f:κ×α→HP}{l:List (κ×α)}{k:κ}(hn:(l.map (·.1)).Nodup)(a:α){L:LH}:Ent (f (k,a)::bigO f (gera l k)::L) (bigO f (gins l k a)::L):=(Ent.bigO_cons (f:=f) (x:=(k,a))).trans (Ent.j7 (vv hn).symm)
end
def addS(l:List Int)(a:Int):List Int:=if a∈l then l else l++[a]
def Bg(l:List Int)(a:Int):gins (tfL l) a true=tfL (addS l a):=by
 unfold addS;split
 ·rename_i h;have hs:∀(l:List Int),glk (tfL l) a=none→a∉l:=fun l h q=>jL h (List.mem_map.2 ⟨(a,true),List.mem_map.2 ⟨a,q,rfl⟩,rfl⟩);cases hg:glk (tfL l) a with
  | none=>exact absurd h (hs l hg)
  | some b =>
   rw[su hg];unfold tfL;rw[cX];refine dI fun p _=>?_;simp only[Function.comp_apply];split
   ·rename_i q;rw[q]
   ·rfl
 ·rename_i h;cases hg:glk (tfL l) a with
  | some b =>
   obtain⟨g,h1,h2⟩:=List.mem_map.1 (cu hg);have:g=a:=congrArg Prod.fst h2;exact absurd (this▸h1) h
  | none =>
   rw[sr hg];unfold tfL;rw[aJ];rfl
def exL(x:ExV)(L:LH):LH:=obj x.b tEx (exC x)::gmap kvI bT x.mv (tfL x.voted)::gmap kvI bT x.mt (tfL x.told)::isl bA 5 x.lad x.legs::allP legP x.legs::isl (encZ .i64) 1 x.gad x.givers::L
def qz{n:NdV}{id:Int}{x:ExV}(hn:(n.begun.map (·.1)).Nodup)(h:List.lookup id n.begun=some x){L:LH}:Ent (bigO exF n.begun::L) (exL x (bigO exF (gera n.begun id)::L)):=(Ent.l0 hn h).trans Ent.openS
def uI{n:NdV}{id:Int}{x:ExV}(hn:(n.begun.map (·.1)).Nodup)(h:List.lookup id n.begun=some x)(y:ExV)(hb:y.b=x.b){L:LH}:Ent (gmap kvI cJ n.mb n.begun::exL y (bigO exF (gera n.begun id)::L)) (gmap kvI cJ n.mb (gins n.begun id y)::bigO exF (gins n.begun id y)::L):=by
 refine(Ent.l7 (a:=y) h hn (by unfold cJ;rw[hb])).trans (Ent.a8 ?_);refine Ent.trans (B:=exF (id,y)::bigO exF (gera n.begun id)::L) ?_ (Ent.j9 hn y);exact Ent.f9 (A:=[obj y.b tEx (exC y),gmap kvI bT y.mv (tfL y.voted),gmap kvI bT y.mt (tfL y.told),isl bA 5 y.lad y.legs,allP legP y.legs,isl (encZ .i64) 1 y.gad y.givers])
def ptL(p:PtV)(L:LH):LH:=obj p.b tPt (ptC p)::osl dH 8 tOw p.lad p.lcap p.legs::allP owP p.legs::L
def mU{n:NdV}{id:Int}{x:PtV}(hn:(n.parts.map (·.1)).Nodup)(h:List.lookup id n.parts=some x){L:LH}:Ent (bigO ptF n.parts::L) (ptL x (bigO ptF (gera n.parts id)::L)):=(Ent.l0 hn h).trans Ent.openS
def Bn{n:NdV}{id:Int}{x:PtV}(hn:(n.parts.map (·.1)).Nodup)(h:List.lookup id n.parts=some x)(y:PtV)(hb:y.b=x.b){L:LH}:Ent (gmap kvI cL n.mp n.parts::ptL y (bigO ptF (gera n.parts id)::L)) (gmap kvI cL n.mp (gins n.parts id y)::bigO ptF (gins n.parts id y)::L):=by
 refine(Ent.l7 (a:=y) h hn (by unfold cL;rw[hb])).trans (Ent.a8 ?_);refine Ent.trans (B:=ptF (id,y)::bigO ptF (gera n.parts id)::L) ?_ (Ent.j9 hn y);exact Ent.f9 (A:=[obj y.b tPt (ptC y),osl dH 8 tOw y.lad y.lcap y.legs,allP owP y.legs])
def Kd{n:NdV}{id:Int}(hn:(n.parts.map (·.1)).Nodup)(h:List.lookup id n.parts=none)(y:PtV){L:LH}:Ent (ptL y (bigO ptF n.parts::L)) (bigO ptF (gins n.parts id y)::L):=by
 have e:gera n.parts id=n.parts:=pg (jL h);refine Ent.trans (B:=ptF (id,y)::bigO ptF (gera n.parts id)::L) ?_ (Ent.j9 hn y);rw[e];exact Ent.f9 (A:=[obj y.b tPt (ptC y),osl dH 8 tOw y.lad y.lcap y.legs,allP owP y.legs])
def kw{nb lb:Nat}{sh shs:Int}{n:NdV}{id:Int}{x:ExV}(hn:(n.begun.map (·.1)).Nodup)(h:List.lookup id n.begun=some x)(y:ExV)(hb:y.b=x.b){L:LH}:Ent (gmap kvI cJ n.mb n.begun::exL y (bigO exF (gera n.begun id)::obj nb tNd (ndC lb sh shs n.cnt n.hl n.mb n.mp n.mr)::gmap kvI cL n.mp n.parts::bigO ptF n.parts::gmap kvP bT n.mr (tfK n.recv)::L)) (ndL nb lb sh shs { n with begun:=gins n.begun id y } L):=by
 refine(uI hn h y hb).trans ?_;simp only[ndL];exact ah
def jj{nb lb:Nat}{sh shs:Int}{n:NdV}{id:Int}{x:PtV}(hn:(n.parts.map (·.1)).Nodup)(h:List.lookup id n.parts=some x)(y:PtV)(hb:y.b=x.b){L:LH}:Ent (gmap kvI cL n.mp n.parts::ptL y (bigO ptF (gera n.parts id)::obj nb tNd (ndC lb sh shs n.cnt n.hl n.mb n.mp n.mr)::gmap kvI cJ n.mb n.begun::bigO exF n.begun::gmap kvP bT n.mr (tfK n.recv)::L)) (ndL nb lb sh shs { n with parts:=gins n.parts id y } L):=by
 refine(Bn hn h y hb).trans ?_;simp only[ndL];exact ah
def qY(n:NdV)(id:Int)(y:ExV):({ n with begun:=gins n.begun id y }:NdV).m={ n.m with begun:=gins n.m.begun id y.m }:=by simp only[NdV.m,kG]
def nx(n:NdV)(id:Int)(y:PtV):({ n with parts:=gins n.parts id y }:NdV).m={ n.m with parts:=gins n.m.parts id y.m }:=by simp only[NdV.m,kG]
def gc{n:NdV}{id:Int}:glk n.m.begun id=(List.lookup id n.begun).map ExV.m:=sj ExV.m id n.begun
def fK{n:NdV}{id:Int}:glk n.m.parts id=(List.lookup id n.parts).map PtV.m:=sj PtV.m id n.parts
