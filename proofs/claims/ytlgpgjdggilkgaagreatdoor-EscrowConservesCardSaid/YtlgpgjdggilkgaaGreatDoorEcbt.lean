/- Lemmas. -/
import Derived.Test.YtlgpgjdggilkgaaGreatDoorEcbs
set_option linter.all false
namespace Go.Proofs.YtlgpgjdggilkgaaGreatDoor
section
open Go.V
structure Gh where
 G:Int→Option (List LegM)
 X:Int×Int→Option (List Int)
def Gh.leg(g:Gh)(k:Int×Int):Option LegM:=match g.G k.1 with
 | some ls=>if 0≤k.2 then ls[k.2.toNat]? else none
 | none=>none
def nA{g g' : Gh}(h:g'.G=g.G)(k:Int×Int):g'.leg k=g.leg k:=by
 unfold Gh.leg;rw[h]
def kY(g:Gh)(k:Int×Int):LL:=match g.leg k with
 | some l=>match g.X k with
  | some fl=>lH l.am fl
  | none=>[]
 | none=>[]
def kX{g:Gh}{k:Int×Int}{l:LegM}{fl:List Int}(h1:g.leg k=some l)(h2:g.X k=some fl):kY g k=lH l.am fl:=by
 unfold kY;rw[h1,h2]
structure GhOk (g:Gh):Prop where
 xl:∀k fl,g.X k=some fl→∃l,g.leg k=some l∧(∀x∈fl,x / 4294967296=l.sh)∧fl.Nodup
 dis:∀k k' a b,g.X k=some a→g.X k' = some b→k≠k'→∀x∈a,x∉b
structure LsJ (g:Gh) (sh:Int) (rv:List (Int×Int)) (S:LedM):Prop where
 led:LedJ sh S
 exp:∀k l fl,g.leg k=some l→l.sh=sh→g.X k=some fl→(∀y∈lH l.am fl,y∈expL S.flows)∧∀x∈fl,x<sh*4294967296+S.flows.length
 nd:rv.Nodup
 rc:∀k∈rv,∃l fl,g.leg k=some l∧l.ts=sh∧g.X k=some fl
 imp:cz S.flows=rv.flatMap (kY g)
structure OwJ (g:Gh) (sh id:Int) (o:OwM):Prop where
 lg:g.leg (id,o.index)=some o.leg
 sh:o.leg.sh=sh
 x0:o.state=0→g.X (id,o.index)=none
 x1:o.state=1→g.X (id,o.index)=some o.flows
structure MsgJ (g:Gh) (y:MsM):Prop where
 pr:y.ct.kind=1→g.G y.ct.id=some y.ct.legs
 tr:y.ct.kind=5→∃l,g.leg (y.ct.id,y.ct.index)=some l∧y.ct.legs=[l]∧l.ts=y.to∧g.X (y.ct.id,y.ct.index)=some y.ct.flows
def LsJ.keep{g:Gh}{sh:Int}{rv:List (Int×Int)}{S S' : LedM}(h:LsJ g sh rv S)(hJ:LedJ sh S')(h1:expL S'.flows=expL S.flows)(h2:cz S'.flows=cz S.flows)(h3:S.flows.length≤S'.flows.length):LsJ g sh rv S' :=
 ⟨hJ,fun k l fl q1 q2 q3=>⟨by rw[h1];exact(h.exp k l fl q1 q2 q3).1,fun x hx=>by have:=(h.exp k l fl q1 q2 q3).2 x hx;omega⟩,h.nd,h.rc,by rw[h2];exact h.imp⟩
def LsJ.trade{g:Gh}{sh:Int}{rv:List (Int×Int)}{S:LedM}(h:LsJ g sh rv S)(tick:Int)(ms:List MvM):LsJ g sh rv (gAft S 2 tick ms):=by
 obtain⟨q1,q2,q3,q4⟩:=qk (s:=esM 2 tick ms) h.led (by show ¬((2:Int)=4∨(2:Int)=10∨(2:Int)=7∨(2:Int)=9);decide) (by show ¬(2:Int)=5;decide) (by show ¬(2:Int)=6;decide);exact h.keep q1 q2 q3 q4
def Gh.put(g:Gh)(k:Int×Int)(fl:List Int):Gh:={ g with X:=fun j=>if j=k then some fl else g.X j }
def Gh.c7(g:Gh)(k:Int×Int)(fl:List Int):(g.put k fl).X k=some fl:=if_pos rfl
def Gh.a8{g:Gh}{k j:Int×Int}(fl:List Int)(h:j≠k):(g.put k fl).X j=g.X j:=if_neg h
def mY{α β:Type}{f f' : α→List β}:∀{l:List α},(∀x∈l,f x=f' x)→l.flatMap f=l.flatMap f'
 | [],_=>rfl
 | a::l,h=>by rw[aO,aO,h a av,mY fun x hx=>h x (au _ hx)]
def LsJ.lots{g g' : Gh}{sh:Int}{rv:List (Int×Int)}{S:LedM}(h:LsJ g sh rv S)(hG:g'.G=g.G)(hm:∀k fl,g.X k=some fl→g'.X k=some fl):rv.flatMap (kY g')=rv.flatMap (kY g):=by
 refine mY fun k hk=>?_;obtain⟨l,fl,q1,q2,q3⟩:=h.rc k hk;rw[kX q1 q3,kX ((nA hG k).trans q1) (hm k fl q3)]
def LsJ.xpo{g:Gh}{sh:Int}{rv:List (Int×Int)}{S:LedM}(h:LsJ g sh rv S)(hg:GhOk g){k:Int×Int}{l:LegM}(hl:g.leg k=some l)(hs:l.sh=sh)(hX:g.X k=none){hold tick:Int}(a9:gOk S 6 tick (mvsN hold 0 l.am)=true) :
  GhOk (g.put k (gIds S 6 tick (mvsN hold 0 l.am)))∧LsJ (g.put k (gIds S 6 tick (mvsN hold 0 l.am))) sh rv (gAft S 6 tick (mvsN hold 0 l.am)):=by
 obtain⟨F,hF,e1,e2⟩:=Fk h.led a9 ae;have a7:=hF.j.fb;have a5:=uC hF.fs;rw[hF.fl,aj,a5] at a7
 have a2:∀x∈gIds S 6 tick (mvsN hold 0 l.am),sh*4294967296+S.flows.length≤x∧x<sh*4294967296+S.flows.length+(mvsN hold 0 l.am).length:=fun x hx=>by
  rw[e1] at hx;exact sf hx
 have a4:expL F=lH l.am (gIds S 6 tick (mvsN hold 0 l.am)):=by rw[←e2];exact BQ (id:=0) hF.fs
 generalize gIds S 6 tick (mvsN hold 0 l.am)=fl at *;generalize gAft S 6 tick (mvsN hold 0 l.am)=S' at *
 have a0:∀j f,g.X j=some f→(g.put k fl).X j=some f:=fun j f q=>by
  rw[Gh.a8 fl (fun e=>by rw[e,hX] at q;cases q)];exact q
 have a1:∀j f,g.X j=some f→∀x∈f,x∉fl:=fun j f q x hx a3=>by
  obtain⟨l',p1,p2,p3⟩:=hg.xl j f q;have r1:=a2 x a3;have r2:=p2 x hx;by_cases e:l'.sh=sh
  ·have:=(h.exp j l' f p1 e q).2 x hx
   omega
  ·omega
 refine⟨⟨fun j f q=>?_,fun j j' a b qa qb a6 x hx a3=>?_⟩,⟨hF.j,fun j l' f p1 p2 p3=>?_,h.nd,fun j hj=>?_,?_⟩⟩
 ·by_cases e:j=k
  ·subst e;rw[Gh.c7] at q;obtain rfl:=Option.some.inj q;refine⟨l,hl,fun x hx=>?_,by rw[e1];exact tJ _ _⟩;have:=a2 x hx
   omega
  ·rw[Gh.a8 fl e] at q;exact hg.xl j f q
 ·by_cases ea:j=k
  ·by_cases eb:j' = k
   ·exact a6 (ea.trans eb.symm)
   ·rw[ea,Gh.c7] at qa;rw[Gh.a8 fl eb] at qb;rw[←Option.some.inj qa] at hx;exact a1 j' b qb x a3 hx
  ·rw[Gh.a8 fl ea] at qa;by_cases eb:j' = k
   ·rw[eb,Gh.c7] at qb;rw[←Option.some.inj qb] at a3;exact a1 j a qa x hx a3
   ·rw[Gh.a8 fl eb] at qb;exact hg.dis j j' a b qa qb a6 x hx a3
 ·rw[hF.fl,lB,aj,a5];by_cases e:j=k
  ·subst e;rw[Gh.c7] at p3;obtain rfl:=Option.some.inj p3;have e3:l' = l:=Option.some.inj (p1.symm.trans hl);refine⟨fun y hy=>bK _ (by rw[a4,←e3];exact hy),fun x hx=>?_⟩;have:=a2 x hx
   omega
  ·rw[Gh.a8 fl e] at p3;obtain⟨r1,r2⟩:=h.exp j l' f p1 p2 p3;exact⟨fun y hy=>bM _ (r1 y hy),fun x hx=>by have:=r2 x hx;omega⟩
 ·obtain⟨l',f,p1,p2,p3⟩:=h.rc j hj;exact⟨l',f,p1,p2,a0 j f p3⟩
 ·rw[hF.fl,jU,se (F:=F) (fun f hf=>by rw[(om hF.fs f hf).1];decide),aH,h.imp];exact(h.lots (g':=g.put k fl) rfl a0).symm
def LsJ.ipo{g:Gh}{sh:Int}{rv:List (Int×Int)}{S:LedM}(h:LsJ g sh rv S){k:Int×Int}{l:LegM}{fl:List Int}(hl:g.leg k=some l)(hs:l.ts=sh)(hX:g.X k=some fl)(hk:k∉rv){to tick:Int}(a0:gOk S 5 tick (impM to l.am fl)=true):LsJ g sh (rv++[k]) (gAft S 5 tick (impM to l.am fl)):=by
 obtain⟨F,hF,_,_⟩:=Fk h.led a0 ae;have a1:=uC hF.fs;refine⟨hF.j,fun j l' f p1 p2 p3=>?_,?_,fun j hj=>?_,?_⟩
 ·rw[hF.fl,lB,aj];obtain⟨r1,r2⟩:=h.exp j l' f p1 p2 p3;exact⟨fun y hy=>bM _ (r1 y hy),fun x hx=>by have:=r2 x hx;omega⟩
 ·exact List.nodup_append.2 ⟨h.nd,List.nodup_cons.2 ⟨ay,dY⟩,fun a ha b hb e=>hk (by rw[List.mem_singleton.1 hb] at e;rw[←e];exact ha)⟩
 ·rcases List.mem_append.1 hj with hj|hj
  ·exact h.rc j hj
  ·rw[List.mem_singleton.1 hj];exact⟨l,fl,hl,hs,hX⟩
 ·rw[hF.fl,jU,BP hF.fs,cl,h.imp,List.flatMap_singleton,kX hl hX]
def OwJ.of{g g' : Gh}{sh id:Int}{o:OwM}(h:OwJ g sh id o)(hG:g'.G=g.G)(hX:g'.X (id,o.index)=g.X (id,o.index)):OwJ g' sh id o :=
 ⟨(nA hG _).trans h.lg,h.sh,fun q=>hX.trans (h.x0 q),fun q=>hX.trans (h.x1 q)⟩
def MsgJ.of{g g' : Gh}{y:MsM}(h:MsgJ g y)(hG:g'.G=g.G)(hm:∀k fl,g.X k=some fl→g'.X k=some fl):MsgJ g' y :=
 ⟨fun q=>by rw[hG];exact h.pr q,fun q=>by
  obtain⟨l,h1,h2,h3,h4⟩:=h.tr q;exact⟨l,(nA hG _).trans h1,h2,h3,hm _ _ h4⟩⟩
def MsgJ.none{g:Gh}{y:MsM}(h1:¬y.ct.kind=1)(h5:¬y.ct.kind=5):MsgJ g y:=⟨fun q=>absurd q h1,fun q=>absurd q h5⟩
structure StJ (g:Gh) (sh id:Int) (rv:List (Int×Int)) (o:OwM) (r:List MsM×OwM×LedM) (g' : Gh):Prop where
 G:g'.G=g.G
 ne:∀k,k≠(id,o.index)→g'.X k=g.X k
 mono:∀k fl,g.X k=some fl→g'.X k=some fl
 gh:GhOk g'
 ls:LsJ g' sh rv r.2.2
 ix:r.2.1.index=o.index
 ow:OwJ g' sh id r.2.1
 ms:∀y∈r.1,MsgJ g' y
def StJ.same{g:Gh}{sh id:Int}{rv:List (Int×Int)}{o o' : OwM}{S S' : LedM}{ms:List MsM}(hg:GhOk g)(h:LsJ g sh rv S')(ho:OwJ g sh id o')(hi:o'.index=o.index)(hm:∀y∈ms,MsgJ g y):StJ g sh id rv o (ms,o',S') g :=
 ⟨rfl,fun _ _=>rfl,fun _ _ q=>q,hg,h,hi,ho,hm⟩
def sU{g:Gh}{sh id:Int}{o:OwM}(hl:g.leg (id,o.index)=some o.leg)(hX:g.X (id,o.index)=some o.flows):MsgJ g (iH sh id o) :=
 ⟨fun q=>absurd (show(5:Int)=1 from q) ae,fun _=>⟨o.leg,hl,rfl,rfl,hX⟩⟩
def wo{g:Gh}{sh id pst hold tick:Int}{rv:List (Int×Int)}{o:OwM}{S:LedM}(h:LsJ g sh rv S)(hg:GhOk g)(ho:OwJ g sh id o):∃g',StJ g sh id rv o (ee sh id pst hold tick o S) g':=by
 unfold ee;by_cases h0:o.state≠0
 ·rw[if_pos h0];exact⟨g,StJ.same (S:=S) hg h ho rfl fun y hy=>by cases hy⟩
 rw[if_neg h0];by_cases h1:pst=1∧o.leg.ts≠sh
 ·rw[if_pos h1];by_cases h2:gOk S 6 tick (mvsN hold 0 o.leg.am)=true
  ·rw[if_pos h2];have hX:=ho.x0 ab;obtain⟨q1,q2⟩:=h.xpo hg ho.lg ho.sh hX h2;refine⟨g.put (id,o.index) (gIds S 6 tick (mvsN hold 0 o.leg.am)),⟨rfl,fun k hk=>Gh.a8 _ hk,fun k fl q=>?_,q1,q2,rfl,⟨ho.lg,ho.sh,fun q=>absurd (show(1:Int)=0 from q) ae,fun _=>Gh.c7 _ _ _⟩,fun y hy=>?_⟩⟩
   ·rw[Gh.a8 _ (fun e=>by rw[e,hX] at q;cases q)];exact q
   ·rw[List.mem_singleton.1 hy];exact sU (o:={ o with state:=1,flows:=gIds S 6 tick (mvsN hold 0 o.leg.am) }) ho.lg (Gh.c7 _ _ _)
  ·rw[if_neg h2];exact⟨g,StJ.same (S:=S) hg h ho rfl fun y hy=>by cases hy⟩
 rw[if_neg h1];generalize (if pst=2 then o.leg.fr else o.leg.to)=t;by_cases h2:gOk S 2 tick (mvsN hold t o.leg.am)=true
 ·rw[if_pos h2];exact⟨g,StJ.same (S:=S) hg (h.trade tick _) ⟨ho.lg,ho.sh,fun q=>absurd (show(2:Int)=0 from q) ae,fun q=>absurd (show(2:Int)=1 from q) ae⟩ rfl fun y hy=>by cases hy⟩
 ·rw[if_neg h2];exact⟨g,StJ.same (S:=S) hg h ho rfl fun y hy=>by cases hy⟩
def Jf{g:Gh}{sh id pst hold tick:Int}{rv:List (Int×Int)}{o:OwM}{S:LedM}(h:LsJ g sh rv S)(hg:GhOk g)(ho:OwJ g sh id o):∃g',StJ g sh id rv o (advW sh id pst hold tick o S) g':=by
 unfold advW;by_cases h1:o.state=1
 ·rw[if_pos h1];exact⟨g,StJ.same (S:=S) hg h ho rfl fun y hy=>by rw[List.mem_singleton.1 hy];exact sU ho.lg (ho.x1 h1)⟩
 ·rw[if_neg h1];exact wo h hg ho
structure RnJ (g:Gh) (sh id:Int) (rv:List (Int×Int)) (os:List OwM) (r:List MsM×List OwM×LedM) (g' : Gh):Prop where
 G:g'.G=g.G
 ne:∀k,(k.1=id→k.2∉os.map (·.index))→g'.X k=g.X k
 mono:∀k fl,g.X k=some fl→g'.X k=some fl
 gh:GhOk g'
 ls:LsJ g' sh rv r.2.2
 ix:r.2.1.map (·.index)=os.map (·.index)
 ow:∀o∈r.2.1,OwJ g' sh id o
 ms:∀y∈r.1,MsgJ g' y
def Bm{f:OwM→LedM→List MsM×OwM×LedM}{sh id:Int}{rv:List (Int×Int)}(hf:∀g S o,LsJ g sh rv S→GhOk g→OwJ g sh id o→∃g',StJ g sh id rv o (f o S) g'):∀(os:List OwM) (g:Gh) (S:LedM),LsJ g sh rv S→GhOk g→(∀o∈os,OwJ g sh id o)→(os.map (·.index)).Nodup→∃g',RnJ g sh id rv os (runL f os S) g'
 | [],g,S,h,hg,_,_=>⟨g,rfl,fun _ _=>rfl,fun _ _ q=>q,hg,h,rfl,fun o ho=>(by cases ho),fun y hy=>(by cases hy)⟩
 | o::os,g,S,h,hg,ho,hn=>by
  rw[aF,fm] at hn;obtain⟨g1,q⟩:=hf g S o h hg (ho o av);have a0:∀x∈os,OwJ g1 sh id x:=fun x hx=>(ho x (au _ hx)).of q.G (q.ne _ fun e=>hn.1 (by rw[←(Prod.mk.inj e).2];exact List.mem_map.2 ⟨x,hx,rfl⟩));obtain⟨g2,p⟩:=Bm hf os g1 (f o S).2.2 q.ls q.gh a0 hn.2;refine⟨g2,p.G.trans q.G,fun k hk=>?_,fun k fl e=>p.mono k fl (q.mono k fl e),p.gh,p.ls,?_,fun x hx=>?_,fun y hy=>?_⟩
  ·rw[p.ne k fun e m=>hk e (by rw[aF];exact au _ m)];exact q.ne k fun e=>hk (by rw[e]) (by rw[e,aF];exact av)
  ·show List.map _ ((f o S).2.1::(runL f os (f o S).2.2).2.1)=_;rw[aF,aF,q.ix,p.ix]
  ·rcases List.mem_cons.1 hx with rfl|hx
   ·exact q.ow.of p.G (p.ne _ fun _ m=>hn.1 (by rw[q.ix] at m;exact m))
   ·exact p.ow x hx
  ·rcases List.mem_append.1 hy with hy|hy
   ·exact(q.ms y hy).of p.G p.mono
   ·exact p.ms y hy
def uU(sh id pst hold tick:Int):∀(os:List OwM) (S:LedM),cN sh id pst hold tick os S=runL (ee sh id pst hold tick) os S
 | [],_=>rfl
 | o::os,S=>by
  simp only[cN,runL];rw[uU sh id pst hold tick os]
structure NodeJ (g:Gh) (sh:Int) (N:NdM) (S:LedM):Prop where
 ls:LsJ g sh N.recv S
 bg:∀id x,glk N.begun id=some x→g.G id=some x.legs
 pt:∀id p,glk N.parts id=some p→(∀o∈p.legs,OwJ g sh id o)∧(p.legs.map (·.index)).Nodup
 has:∀k l,g.leg k=some l→l.sh=sh→g.X k≠none→glk N.parts k.1≠none
structure ExtJ (sh:Int) (g g' : Gh):Prop where
 G:g'.G=g.G
 mono:∀k fl,g.X k=some fl→g'.X k=some fl
 oth:∀k l,g.leg k=some l→l.sh≠sh→g'.X k=g.X k
def ExtJ.refl(sh:Int)(g:Gh):ExtJ sh g g:=⟨rfl,fun _ _ q=>q,fun _ _ _ _=>rfl⟩
def ExtJ.trans{sh:Int}{g g1 g2:Gh}(h:ExtJ sh g g1)(k:ExtJ sh g1 g2):ExtJ sh g g2 :=
 ⟨k.G.trans h.G,fun a b q=>k.mono a b (h.mono a b q),fun a l q1 q2=>(k.oth a l ((nA h.G a).trans q1) q2).trans (h.oth a l q1 q2)⟩
def OpJ(g:Gh)(sh:Int)(r:HRes):Prop:=∃g',ExtJ sh g g'∧GhOk g'∧NodeJ g' sh r.2.1 r.2.2∧∀y∈r.1,MsgJ g' y
def OpJ.same{g:Gh}{sh:Int}{ms:List MsM}{N:NdM}{S:LedM}(hg:GhOk g)(h:NodeJ g sh N S)(hm:∀y∈ms,MsgJ g y):OpJ g sh (ms,N,S):=⟨g,ExtJ.refl sh g,hg,h,hm⟩
def NodeJ.setB{g:Gh}{sh:Int}{N:NdM}{S:LedM}(h:NodeJ g sh N S){id:Int}{x:ExM}(hx:g.G id=some x.legs){c:Int}:NodeJ g sh { N with cnt:=c,begun:=gins N.begun id x } S :=
 ⟨h.ls,fun j y q=>by
  have q:glk (gins N.begun id x) j=some y:=q;rw[ij] at q;by_cases e:j=id
  ·rw[if_pos e] at q;rw[←Option.some.inj q,e];exact hx
  ·rw[if_neg e] at q;exact h.bg j y q,h.pt,h.has⟩
def NodeJ.setP{g:Gh}{sh:Int}{N:NdM}{S S' : LedM}(h:NodeJ g sh N S)(hS:LsJ g sh N.recv S'){id:Int}{p:PtM}(hp:(∀o∈p.legs,OwJ g sh id o)∧(p.legs.map (·.index)).Nodup){c:Int}:NodeJ g sh { N with hl:=c,parts:=gins N.parts id p } S' :=
 ⟨hS,h.bg,fun j y q=>by
  have q:glk (gins N.parts id p) j=some y:=q;rw[ij] at q;by_cases e:j=id
  ·rw[if_pos e] at q;rw[←Option.some.inj q,e];exact hp
  ·rw[if_neg e] at q;exact h.pt j y q,fun k l q1 q2 q3=>by
  show glk (gins N.parts id p) k.1≠none;rw[ij];by_cases e:k.1=id
  ·rw[if_pos e];exact fun q=>by cases q
  ·rw[if_neg e];exact h.has k l q1 q2 q3⟩
def NodeJ.run{g g' : Gh}{sh:Int}{N:NdM}{S:LedM}(h:NodeJ g sh N S){id:Int}{p:PtM}(hp:glk N.parts id=some p){r:List MsM×List OwM×LedM}(hr:RnJ g sh id N.recv p.legs r g'){st:Int}:ExtJ sh g g'∧NodeJ g' sh { N with parts:=gins N.parts id ⟨st,p.hold,r.2.1⟩ } r.2.2:=by
 obtain⟨p1,p2⟩:=h.pt id p hp;refine⟨⟨hr.G,hr.mono,fun k l q1 q2=>hr.ne k fun e m=>?_⟩,⟨hr.ls,fun j y q=>by rw[hr.G];exact h.bg j y q,fun j y q=>?_,fun k l q1 q2 q3=>?_⟩⟩
 ·obtain⟨o,ho,e2⟩:=List.mem_map.1 m;have q3:=(p1 o ho).lg;rw[show(id,o.index)=k from Prod.ext e.symm e2,q1] at q3;rw[Option.some.inj q3] at q2;exact q2 (p1 o ho).sh
 ·have q:glk (gins N.parts id ⟨st,p.hold,r.2.1⟩) j=some y:=q;rw[ij] at q;by_cases e:j=id
  ·rw[if_pos e] at q;rw[←Option.some.inj q,e];exact⟨hr.ow,by show(r.2.1.map (·.index)).Nodup;rw[hr.ix];exact p2⟩
  ·rw[if_neg e] at q;obtain⟨r1,r2⟩:=h.pt j y q;exact⟨fun o ho=>(r1 o ho).of hr.G (hr.ne _ fun e2=>absurd e2 e),r2⟩
 ·show glk (gins N.parts id ⟨st,p.hold,r.2.1⟩) k.1≠none;rw[ij];by_cases e:k.1=id
  ·rw[if_pos e];exact fun q=>by cases q
  ·rw[if_neg e];rw[hr.ne k fun e2=>absurd e2 e] at q3;exact h.has k l ((nA hr.G k).symm.trans q1) q2 q3
def rT{sh:Int}:∀{ls:List LegM} {k:Int} {o:OwM},o∈ownM sh k ls→(k≤o.index∧ls[(o.index - k).toNat]? = some o.leg)∧o.leg.sh=sh∧o.state=0
 | [],_,_,h=>by cases h
 | l::ls,k,o,h=>by
  unfold ownM at h
  have step:o∈ownM sh (k+1) ls→(k≤o.index∧(l::ls)[(o.index - k).toNat]? = some o.leg)∧o.leg.sh=sh∧o.state=0:=fun h=>by
   obtain⟨⟨q1,q2⟩,q3⟩:=rT h;refine⟨⟨ab,?_⟩,q3⟩;rw[show(o.index - k).toNat=(o.index - (k+1)).toNat+1 by omega,List.getElem?_cons_succ];exact q2
  by_cases e:l.sh=sh
  ·rw[if_pos e] at h;rcases List.mem_cons.1 h with rfl|h
   ·refine⟨⟨bq _,?_⟩,e,rfl⟩;rw[show((⟨l,k,0,[]⟩:OwM).index - k).toNat=0 by show(k - k).toNat=0;omega];rfl
   ·exact step h
  ·rw[if_neg e] at h;exact step h
def ut{sh:Int}:∀(ls:List LegM) (k:Int),((ownM sh k ls).map (·.index)).Nodup
 | [],_=>dY
 | l::ls,k=>by
  unfold ownM;by_cases e:l.sh=sh
  ·rw[if_pos e,aF];refine List.nodup_cons.2 ⟨fun h=>?_,ut ls (k+1)⟩;obtain⟨o,ho,he⟩:=List.mem_map.1 h;have:=(rT ho).1.1
   have he:o.index=k:=he;omega
  ·rw[if_neg e];exact ut ls (k+1)
def lr{g:Gh}{sh:Int}{gs W:List Int}{ct:CtM}(h1:ct.kind=1→g.G ct.id=some ct.legs)(h5:¬ct.kind=5):∀y∈dl sh gs W ct,MsgJ g y:=fun y hy=>by
 unfold dl at hy;obtain⟨a,_,rfl⟩:=List.mem_map.1 hy;exact⟨h1,fun q=>absurd q h5⟩
def nM{g:Gh}{frm to kind id index:Int}{yes:Bool}(h1:¬kind=1)(h5:¬kind=5):∀y∈[(⟨frm,to,ct0 kind id index yes⟩:MsM)],MsgJ g y:=fun y hy=>by
 rw[List.mem_singleton.1 hy];exact MsgJ.none h1 h5
def Iv{g:Gh}{sh tick:Int}{m:CtM}{N:NdM}{S:LedM}(hg:GhOk g)(h:NodeJ g sh N S)(hm:g.G m.id=some m.legs):OpJ g sh (iq sh m tick N S):=by
 unfold iq;cases hp:glk N.parts m.id with
 | some p=>exact OpJ.same hg h (nM ae ae)
 | none =>
  dsimp only;by_cases h1:gOk S 2 tick (gL (268435456+N.hl) (ownM sh 0 m.legs))=true
  ·rw[if_pos h1];refine OpJ.same hg (h.setP (h.ls.trade tick _) ⟨fun o ho=>?_,ut m.legs 0⟩) (nM ae ae);obtain⟨⟨q1,q2⟩,q3,q4⟩:=rT ho
   have hl:g.leg (m.id,o.index)=some o.leg:=by
    unfold Gh.leg;rw[hm];dsimp only;rw[if_pos q1,←q2];congr 2;omega
   refine⟨hl,q3,fun _=>?_,fun e=>absurd (q4.symm.trans e) ae⟩;cases hX:g.X (m.id,o.index) with
   | none=>rfl
   | some fl=>exact absurd hp (h.has _ _ hl q3 (by rw[hX];exact fun q=>by cases q))
  ·rw[if_neg h1];exact OpJ.same hg (h.setP (c:=N.hl) h.ls (by exact⟨fun o ho=>(by cases ho),dY⟩)) (nM ae ae)
def Ic{g:Gh}{sh frm tick:Int}{m:CtM}{N:NdM}{S:LedM}(hg:GhOk g)(h:NodeJ g sh N S):OpJ g sh (gy sh frm m tick N S):=by
 unfold gy;cases hx:glk N.begun m.id with
 | none=>exact OpJ.same hg h fun y hy=>by cases hy
 | some x =>
  have hG:=h.bg m.id x hx;dsimp only;split
  ·exact OpJ.same hg h fun y hy=>by cases hy
  split
  ·exact OpJ.same hg (h.setB (c:=N.cnt) (by exact hG)) (lr (fun q=>absurd (show(3:Int)=1 from q) ae) (by show ¬(3:Int)=5;decide))
  split
  ·exact OpJ.same hg (h.setB (c:=N.cnt) (by exact hG)) fun y hy=>by cases hy
  ·exact OpJ.same hg (h.setB (c:=N.cnt) (by exact hG)) (lr (fun q=>absurd (show(3:Int)=1 from q) ae) (by show ¬(3:Int)=5;decide))
def HM{g:Gh}{sh id:Int}{N:NdM}{S:LedM}(hg:GhOk g)(h:NodeJ g sh N S){p:PtM}(hp:glk N.parts id=some p){f:OwM→LedM→List MsM×OwM×LedM}(hf:∀g S o,LsJ g sh N.recv S→GhOk g→OwJ g sh id o→∃g',StJ g sh id N.recv o (f o S) g')(st:Int){ms:List MsM}(a0:∀g y,y∈ms→MsgJ g y):OpJ g sh ((runL f p.legs S).1++ms,{ N with parts:=gins N.parts id ⟨st,p.hold,(runL f p.legs S).2.1⟩ },(runL f p.legs S).2.2):=by
 obtain⟨p1,p2⟩:=h.pt id p hp;obtain⟨g',hr⟩:=Bm hf p.legs g S h.ls hg p1 p2;obtain⟨q1,q2⟩:=h.run hp hr (st:=st);refine⟨g',q1,hr.gh,q2,fun y hy=>?_⟩;rcases List.mem_append.1 hy with hy|hy
 ·exact hr.ms y hy
 ·exact a0 g' y hy
def FU{g:Gh}{sh tick:Int}{m:CtM}{N:NdM}{S:LedM}(hg:GhOk g)(h:NodeJ g sh N S):OpJ g sh (fF sh m tick N S):=by
 unfold fF;cases hp:glk N.parts m.id with
 | none=>exact OpJ.same hg (h.setP (c:=N.hl) h.ls (by exact⟨fun o ho=>(by cases ho),dY⟩)) (nM ae ae)
 | some p =>
  dsimp only;split
  ·rw[uU];exact HM hg h hp (fun g S o=>wo) _ fun g y hy=>nM ae ae y hy
  ·exact OpJ.same hg h (nM ae ae)
def Ig{g:Gh}{sh frm:Int}{m:CtM}{N:NdM}{S:LedM}(hg:GhOk g)(h:NodeJ g sh N S):OpJ g sh (jD frm m N S):=by
 unfold jD NdM.setB;cases hx:glk N.begun m.id with
 | none=>exact OpJ.same hg h fun y hy=>by cases hy
 | some x =>
  dsimp only;exact OpJ.same hg (h.setB (c:=N.cnt) (by exact h.bg m.id x hx)) fun y hy=>by cases hy
def JO{g:Gh}{sh:Int}{m:CtM}{N:NdM}{S:LedM}(hg:GhOk g)(h:NodeJ g sh N S):OpJ g sh (gotM m N S):=by
 unfold gotM NdM.setP;cases hp:glk N.parts m.id with
 | none=>exact OpJ.same hg h fun y hy=>by cases hy
 | some p =>
  obtain⟨p1,p2⟩:=h.pt m.id p hp;have a0:∀o,(jF m.index o).index=o.index:=fun o=>by unfold jF;split<;>rfl
  dsimp only;refine OpJ.same hg (h.setP (c:=N.hl) h.ls ⟨fun o ho=>?_,?_⟩) fun y hy=>by cases hy
  ·obtain⟨a,ha,rfl⟩:=List.mem_map.1 ho;have q:=p1 a ha;unfold jF;split
   ·exact⟨q.lg,q.sh,fun e=>absurd (show(2:Int)=0 from e) ae,fun e=>absurd (show(2:Int)=1 from e) ae⟩
   ·exact q
  ·show((p.legs.map (jF m.index)).map (·.index)).Nodup;rw[cX,show((fun x:OwM=>x.index) ∘ jF m.index)=fun x=>x.index from funext a0];exact p2
def Gw{g:Gh}{sh frm tick:Int}{m:CtM}{N:NdM}{S:LedM}(hg:GhOk g)(h:NodeJ g sh N S)(hm:∃l,g.leg (m.id,m.index)=some l∧m.legs=[l]∧l.ts=sh∧g.X (m.id,m.index)=some m.flows):OpJ g sh (gC sh frm m tick N S):=by
 obtain⟨l,h1,h2,h3,h4⟩:=hm;unfold gC;by_cases hr:(m.id,m.index)∈N.recv
 ·rw[if_pos hr];exact OpJ.same hg h (nM ae ae)
 rw[if_neg hr];split
 ·by_cases a0:gOk S 5 tick (impM m.legs[0]!.to m.legs[0]!.am m.flows)=true
  ·rw[if_pos a0];have e:m.legs[0]! = l:=by rw[h2];rfl
   rw[e] at a0 ⊢;exact OpJ.same hg ⟨h.ls.ipo h1 h3 h4 hr a0,h.bg,h.pt,h.has⟩ (nM ae ae)
  ·rw[if_neg a0];exact OpJ.same hg h fun y hy=>by cases hy
 ·exact OpJ.same hg h fun y hy=>by cases hy
def BI{g:Gh}{sh frm tick:Int}{m:CtM}{N:NdM}{S:LedM}(hg:GhOk g)(h:NodeJ g sh N S){f2:Int}(hm:MsgJ g ⟨f2,sh,m⟩):OpJ g sh (bZ sh frm m tick N S):=by
 unfold bZ;by_cases k1:m.kind=1
 ·rw[if_pos k1];exact Iv hg h (hm.pr k1)
 rw[if_neg k1];by_cases k2:m.kind=2
 ·rw[if_pos k2];exact Ic hg h
 rw[if_neg k2];by_cases k3:m.kind=3
 ·rw[if_pos k3];exact FU hg h
 rw[if_neg k3];by_cases k4:m.kind=4
 ·rw[if_pos k4];exact Ig hg h
 rw[if_neg k4];by_cases k5:m.kind=5
 ·rw[if_pos k5];exact Gw hg h (hm.tr k5)
 rw[if_neg k5];by_cases k6:m.kind=6
 ·rw[if_pos k6];exact JO hg h
 rw[if_neg k6];exact OpJ.same hg h fun y hy=>by cases hy
def re{α:Type}{f:α→NdM→LedM→HRes}{sh:Int}{P:Gh→α→Prop}(hP:∀g g' a,ExtJ sh g g'→P g a→P g' a)(hf:∀a g N S,GhOk g→NodeJ g sh N S→P g a→OpJ g sh (f a N S)):∀(l:List α) (g:Gh) (N:NdM) (S:LedM),GhOk g→NodeJ g sh N S→(∀a∈l,P g a)→OpJ g sh (cn f l N S)
 | [],g,N,S,hg,h,_=>OpJ.same hg h fun y hy=>by cases hy
 | a::l,g,N,S,hg,h,hl=>by
  obtain⟨g1,q1,q2,q3,q4⟩:=hf a g N S hg h (hl a av);obtain⟨g2,p1,p2,p3,p4⟩:=re hP hf l g1 (f a N S).2.1 (f a N S).2.2 q2 q3 fun x hx=>hP g g1 x q1 (hl x (au _ hx));refine⟨g2,q1.trans p1,p2,p3,fun y hy=>?_⟩;rcases List.mem_append.1 hy with hy|hy
  ·exact(q4 y hy).of p1.G p1.mono
  ·exact p4 y hy
def MsgJ.ext{sh:Int}(g g' : Gh)(y:MsM)(h:ExtJ sh g g')(q:MsgJ g y):MsgJ g' y:=q.of h.G h.mono
def Bt{sh tick:Int}:∀(d:Nat) (m:MsM) (g:Gh) (N:NdM) (S:LedM),GhOk g→NodeJ g sh N S→MsgJ g m→OpJ g sh (bX sh tick d m N S)
 | 0,_,g,N,S,hg,h,_=>by
  show OpJ g sh ([],N,S);exact OpJ.same hg h fun y hy=>by cases hy
 | d+1,m,g,N,S,hg,h,hm=>by
  have e:bX sh tick (d+1) m N S=if m.to≠sh then([m],N,S) else cn (bX sh tick d) (bZ sh m.frm m.ct tick N S).1 (bZ sh m.frm m.ct tick N S).2.1 (bZ sh m.frm m.ct tick N S).2.2:=rfl;rw[e];by_cases ht:m.to≠sh
  ·rw[if_pos ht];exact OpJ.same hg h fun y hy=>by rw[List.mem_singleton.1 hy];exact hm
  ·rw[if_neg ht];have ht:m.to=sh:=Classical.byContradiction ht;obtain⟨g1,q1,q2,q3,q4⟩:=BI (frm:=m.frm) (tick:=tick) hg h (f2:=m.frm) (m:=m.ct) (by rw[←ht];exact hm);obtain⟨g2,p1,p2,p3,p4⟩:=re (P:=MsgJ) (fun g g' y=>MsgJ.ext g g' y) (fun a g N S=>Bt d a g N S) _ g1 _ _ q2 q3 q4;exact⟨g2,q1.trans p1,p2,p3,p4⟩
def yM{g:Gh}{sh tick:Int}{l:List MsM}{N:NdM}{S:LedM}(hg:GhOk g)(h:NodeJ g sh N S)(hl:∀y∈l,MsgJ g y):OpJ g sh (delM sh tick l N S) :=
 re (P:=MsgJ) (fun g g' y=>MsgJ.ext g g' y) (fun a g N S=>Bt 7 a g N S) l g N S hg h hl
def OpJ.then{g:Gh}{sh:Int}{r r2:HRes}(h:OpJ g sh r)(hk:∀g',GhOk g'→NodeJ g' sh r.2.1 r.2.2→(∀y∈r.1,MsgJ g' y)→OpJ g' sh r2):OpJ g sh r2:=by
 obtain⟨g1,q1,q2,q3,q4⟩:=h;obtain⟨g2,p1,p2,p3,p4⟩:=hk g1 q2 q3 q4;exact⟨g2,q1.trans p1,p2,p3,p4⟩
def It{g:Gh}{sh shs tick:Int}{x:MsM}{N:NdM}{S:LedM}(hg:GhOk g)(h:NodeJ g sh N S)(hx:MsgJ g x):OpJ g sh (eH sh shs x tick N S):=by
 unfold eH;by_cases hc:x.to=sh∧(0≤x.frm∧x.frm<shs)∧x.frm≠sh
 ·rw[if_pos hc];exact(BI (frm:=x.frm) (tick:=tick) hg h (f2:=x.frm) (m:=x.ct) (by rw[←hc.1];exact hx)).then fun g' a b c=>yM a b c
 ·rw[if_neg hc];exact OpJ.same hg h fun y hy=>by cases hy
def JU{g:Gh}{sh tick id:Int}{N:NdM}{S:LedM}(hg:GhOk g)(h:NodeJ g sh N S):OpJ g sh (adv1 sh tick id N S):=by
 have hU:OpJ g sh (advU sh tick id N S):=by
  unfold advU;cases hx:glk N.begun id with
  | none=>exact OpJ.same hg h fun y hy=>by cases hy
  | some x =>
   have hG:=h.bg id x hx
   have e1:(ga sh id x tick).2.legs=x.legs:=by
    unfold ga;split
    ·rfl
    split
    ·rfl
    ·rfl
   dsimp only;refine yM hg (h.setB (c:=N.cnt) (by rw[e1];exact hG)) ?_;unfold ga;split
   ·exact lr (fun q=>absurd (show(3:Int)=1 from q) ae) (by show ¬(3:Int)=5;decide)
   split
   ·exact lr (fun q=>absurd (show(3:Int)=1 from q) ae) (by show ¬(3:Int)=5;decide)
   ·exact lr (fun _=>hG) (by show ¬(1:Int)=5;decide)
 obtain⟨g1,q1,q2,q3,q4⟩:=hU
 have hP:OpJ g1 sh (advP sh tick id (advU sh tick id N S).2.1 (advU sh tick id N S).2.2):=by
  generalize advU sh tick id N S=U at *;unfold advP;cases hp:glk U.2.1.parts id with
  | none=>exact OpJ.same q2 q3 fun y hy=>by cases hy
  | some p =>
   dsimp only;split
   ·have q:=HM q2 q3 hp (f:=advW sh id p.state p.hold tick) (fun g S o=>Jf) p.state (ms:=[]) fun g y hy=>by cases hy
    rw[aH] at q;exact q
   ·exact OpJ.same q2 q3 fun y hy=>by cases hy
 obtain⟨g2,p1,p2,p3,p4⟩:=hP;refine⟨g2,q1.trans p1,p2,p3,fun y hy=>?_⟩;rcases List.mem_append.1 hy with hy|hy
 ·exact(q4 y hy).of p1.G p1.mono
 ·exact p4 y hy
def Ei{g:Gh}{sh tick:Int}{N:NdM}{S:LedM}(hg:GhOk g)(h:NodeJ g sh N S):OpJ g sh (eu sh tick N S) :=
 re (P:=fun _ _=>True) (fun _ _ _ _ _=>trivial) (fun a g N S h1 h2 _=>JU h1 h2) (gx N) g N S hg h fun _ _=>trivial
def NodeJ.ext{g g' : Gh}{i sh:Int}{N:NdM}{S:LedM}(h:NodeJ g i N S)(hx:ExtJ sh g g')(hi:i≠sh):NodeJ g' i N S:=by
 have hX:∀k l,g'.leg k=some l→l.sh=i→g'.X k=g.X k:=fun k l q e=>hx.oth k l ((nA hx.G k).symm.trans q) (by rw[e];exact hi);have hL:∀k,g'.leg k=g.leg k:=nA hx.G;refine⟨⟨h.ls.led,fun k l fl q1 q2 q3=>?_,h.ls.nd,fun k hk=>?_,?_⟩,fun id x q=>by rw[hx.G];exact h.bg id x q,fun id p q=>?_,fun k l q1 q2 q3=>?_⟩
 ·rw[hX k l q1 q2] at q3;exact h.ls.exp k l fl ((hL k).symm.trans q1) q2 q3
 ·obtain⟨l,fl,q1,q2,q3⟩:=h.ls.rc k hk;exact⟨l,fl,(hL k).trans q1,q2,hx.mono k fl q3⟩
 ·rw[h.ls.imp];exact(h.ls.lots hx.G hx.mono).symm
 ·obtain⟨p1,p2⟩:=h.pt id p q;exact⟨fun o ho=>(p1 o ho).of hx.G (hX _ o.leg ((hL _).trans (p1 o ho).lg) (p1 o ho).sh),p2⟩
 ·rw[hX k l q1 q2] at q3;exact h.has k l ((hL k).symm.trans q1) q2 q3
structure CvJ (shs:Int) (g:Gh) (W:WdM):Prop where
 gh:GhOk g
 nd:∀i:Int,0≤i∧i<shs→NodeJ g i (W.nd i).1 (W.nd i).2
 ms:∀y∈W.ms,MsgJ g y
 xs:∀k fl l,g.X k=some fl→g.leg k=some l→0≤l.sh∧l.sh<shs
def RegI(shs:Int)(G:Int→Option (List LegM))(W:WdM):Prop:=∀id ls,G id=some ls→∃i c:Int,((0≤i∧i<shs)∧id=i*4294967296+c)∧0≤c∧c<(W.nd i).1.cnt
def xN{W:WdM}{sh i:Int}{x:NdM×LedM}{shs:Int}(hl:(W.nds.length:Int)=shs)(hs:0≤sh∧sh<shs)(hi:0≤i∧i<shs):({ W with nds:=W.nds.set sh.toNat x }:WdM).nd i=if i=sh then x else W.nd i:=by
 unfold WdM.nd;dsimp only;rw[getElem!_of (by rw[bH];omega),fG];by_cases e:i=sh
 ·rw[if_pos (by rw[e]),if_pos e]
 ·rw[if_neg ab,if_neg e,getElem!_of ab]
def CvJ.put{shs:Int}{g g' : Gh}{W:WdM}(h:CvJ shs g W)(hl:(W.nds.length:Int)=shs){sh:Int}(hs:0≤sh∧sh<shs){N:NdM}{S:LedM}(hx:ExtJ sh g g')(hg:GhOk g')(hN:NodeJ g' sh N S){ms:List MsM}(hm:∀y∈ms,MsgJ g' y):CvJ shs g' { W with nds:=W.nds.set sh.toNat (N,S),ms:=W.ms++ms }:=by
 refine⟨hg,fun i hi=>?_,fun y hy=>?_,fun k fl l q1 q2=>?_⟩
 ·have e:({ W with nds:=W.nds.set sh.toNat (N,S),ms:=W.ms++ms }:WdM).nd i=if i=sh then(N,S) else W.nd i:=xN (W:=W) hl hs hi;rw[e];by_cases q:i=sh
  ·rw[if_pos q,q];exact hN
  ·rw[if_neg q];exact(h.nd i hi).ext hx q
 ·rcases List.mem_append.1 hy with hy|hy
  ·exact MsgJ.ext g g' y hx (h.ms y hy)
  ·exact hm y hy
 ·by_cases e:l.sh=sh
  ·rw[e];exact hs
  ·have q3:=(nA hx.G k).symm.trans q2;rw[hx.oth k l q3 e] at q1;exact h.xs k fl l q1 q3
def CvJ.send{shs:Int}{g:Gh}{W:WdM}(h:CvJ shs g W)(hl:(W.nds.length:Int)=shs){sh:Int}(hs:0≤sh∧sh<shs){r:HRes}(hr:OpJ g sh r):∃g',g'.G=g.G∧CvJ shs g' (W.send sh r):=by
 obtain⟨g',q1,q2,q3,q4⟩:=hr;exact⟨g',q1.G,h.put hl hs q1 q2 q3 q4⟩
def RegI.put{shs:Int}{G:Int→Option (List LegM)}{W W' : WdM}(h:RegI shs G W)(hl:(W.nds.length:Int)=shs){sh:Int}(hs:0≤sh∧sh<shs){x:NdM×LedM}(hc:(W.nd sh).1.cnt≤x.1.cnt)(hW:W'.nds=W.nds.set sh.toNat x):RegI shs G W':=fun id ls q=>by
 obtain⟨i,c,⟨q1,q2⟩,q3,q4⟩:=h id ls q;refine⟨i,c,⟨q1,q2⟩,q3,?_⟩
 have e:W'.nd i=if i=sh then x else W.nd i:=by
  rw[←xN (W:=W) hl hs q1];unfold WdM.nd;rw[hW]
 rw[e];by_cases p:i=sh
 ·rw[if_pos p];rw[p] at q4;omega
 ·rw[if_neg p];exact q4
def Gh.reg(g:Gh)(id:Int)(ls:List LegM):Gh:={ g with G:=fun j=>if j=id then some ls else g.G j }
def mH{g:Gh}{id:Int}{ls:List LegM}(h:g.G id=none){k:Int×Int}{l:LegM}(hl:g.leg k=some l):(g.reg id ls).leg k=some l:=by
 unfold Gh.leg at hl ⊢;have e:(g.reg id ls).G k.1=if k.1=id then some ls else g.G k.1:=rfl;rw[e];by_cases q:k.1=id
 ·rw[q,h] at hl;cases hl
 ·rw[if_neg q];exact hl
def HN{g:Gh}{id j:Int}{ls a0 : List LegM}(h:g.G id=none)(hl:g.G j=some a0):(g.reg id ls).G j=some a0:=by
 have e:(g.reg id ls).G j=if j=id then some ls else g.G j:=rfl;rw[e];by_cases q:j=id
 ·rw[q,h] at hl;cases hl
 ·rw[if_neg q];exact hl
def CvJ.reg{shs:Int}{g:Gh}{W:WdM}(h:CvJ shs g W){id:Int}(ls:List LegM)(a0:g.G id=none):CvJ shs (g.reg id ls) W:=by
 have back:∀k fl l,g.X k=some fl→(g.reg id ls).leg k=some l→g.leg k=some l:=fun k fl l q1 q2=>by
  obtain⟨l',p,_⟩:=h.gh.xl k fl q1;rw[mH a0 p] at q2;rw[←Option.some.inj q2];exact p
 refine⟨⟨fun k fl q=>?_,h.gh.dis⟩,fun i hi=>?_,fun y hy=>?_,fun k fl l q1 q2=>h.xs k fl l q1 (back k fl l q1 q2)⟩
 ·obtain⟨l,p1,p2⟩:=h.gh.xl k fl q;exact⟨l,mH a0 p1,p2⟩
 ·have hN:=h.nd i hi;refine⟨⟨hN.ls.led,fun k l fl q1 q2 q3=>hN.ls.exp k l fl (back k fl l q3 q1) q2 q3,hN.ls.nd,fun k hk=>?_,?_⟩,fun j x q=>HN a0 (hN.bg j x q),fun j p q=>?_,fun k l q1 q2 q3=>?_⟩
  ·obtain⟨l,fl,q1,q2,q3⟩:=hN.ls.rc k hk;exact⟨l,fl,mH a0 q1,q2,q3⟩
  ·rw[hN.ls.imp];refine mY fun k hk=>?_;obtain⟨l,fl,q1,q2,q3⟩:=hN.ls.rc k hk;rw[kX q1 q3,kX (g:=g.reg id ls) (mH a0 q1) q3]
  ·obtain⟨p1,p2⟩:=hN.pt j p q;exact⟨fun o ho=>⟨mH a0 (p1 o ho).lg,(p1 o ho).sh,(p1 o ho).x0,(p1 o ho).x1⟩,p2⟩
  ·cases hX:g.X k with
   | none=>exact absurd hX q3
   | some fl=>exact hN.has k l (back k fl l hX q1) q2 (by rw[hX];exact fun e=>by cases e)
 ·have hm:=h.ms y hy;refine⟨fun q=>HN a0 (hm.pr q),fun q=>?_⟩;obtain⟨l,q1,q2⟩:=hm.tr q;exact⟨l,mH a0 q1,q2⟩
def CvJ.drop{shs:Int}{g:Gh}{W:WdM}(h:CvJ shs g W){W' : WdM}(hn:W'.nds=W.nds)(hm:∀y∈W'.ms,y∈W.ms):CvJ shs g W' :=
 ⟨h.gh,fun i hi=>by
  have e:W'.nd i=W.nd i:=by unfold WdM.nd;rw[hn]
  rw[e];exact h.nd i hi,fun y hy=>h.ms y (hm y hy),h.xs⟩
def RegI.same{shs:Int}{G:Int→Option (List LegM)}{W W' : WdM}(h:RegI shs G W)(hn:W'.nds=W.nds):RegI shs G W':=fun id ls q=>by
 obtain⟨i,c,q1,q2,q3⟩:=h id ls q;have e:W'.nd i=W.nd i:=by unfold WdM.nd;rw[hn]
 exact⟨i,c,q1,q2,by rw[e];exact q3⟩
def CvI(shs:Int)(W:WdM):Prop:=∃g,CvJ shs g W∧RegI shs g.G W
def Kl{shs:Int}{c b M T:Nat}{W:WdM}{o:OpV}(h:WdI shs c b M T W)(ho:OpB shs o)(hc:c<64)(hb:b+24≤2000)(hJ:CvI shs W):CvI shs (doM shs o W).2:=by
 obtain⟨g,hC,hR⟩:=hJ;have hN:=h.at ho.sh;have hl:=h.len;have a0:=hC.nd o.sh ho.sh;unfold doM;split
 ·have ha:=rX ho.lg ho.len;have hr:=pu (ls:=o.legs.map (·.m)) (tick:=W.tick) (until_:=W.tick+o.wait) ho.sh h.rng.2 hN.a (by have:=hN.cnt;omega) hN.items ha h.tick.1 hN.bd hb;have b8:=hN.cnt;have b3:=hN.a.ndw.cnt
  have key:∃g',CvJ shs g' (W.send o.sh (eZ o.sh shs (o.legs.map (·.m)) W.tick (W.tick+o.wait) (W.nd o.sh).1 (W.nd o.sh).2).2)∧RegI shs g'.G (W.send o.sh (eZ o.sh shs (o.legs.map (·.m)) W.tick (W.tick+o.wait) (W.nd o.sh).1 (W.nd o.sh).2).2):=by
   rcases hr with⟨h1,_⟩|⟨h1,h2⟩
   ·rw[h1];obtain⟨g',q1,q2⟩:=hC.send hl ho.sh (OpJ.same (ms:=[]) hC.gh a0 fun y hy=>absurd hy ay);exact⟨g',q2,by rw[q1];exact hR.put hl ho.sh (x:=((W.nd o.sh).1,(W.nd o.sh).2)) (bq _) rfl⟩
   ·have a3:=h2.cnt
    have b4:g.G (o.sh*4294967296+(W.nd o.sh).1.cnt)=none:=by
     cases hg:g.G (o.sh*4294967296+(W.nd o.sh).1.cnt) with
     | none=>rfl
     | some ls =>
      obtain⟨i,c',⟨q1,q2⟩,q3,q4⟩:=hR _ ls hg;have b7:=(h.at q1).cnt;have e:i=o.sh:=ab;rw[e] at q2 q4;omega
    have a2:=hC.reg (o.legs.map (·.m)) b4;have a7:(g.reg (o.sh*4294967296+(W.nd o.sh).1.cnt) (o.legs.map (·.m))).G (o.sh*4294967296+(W.nd o.sh).1.cnt)=some (o.legs.map (·.m)):=if_pos rfl
    have b5:OpJ (g.reg (o.sh*4294967296+(W.nd o.sh).1.cnt) (o.legs.map (·.m))) o.sh (eZ o.sh shs (o.legs.map (·.m)) W.tick (W.tick+o.wait) (W.nd o.sh).1 (W.nd o.sh).2).2:=by
     have a1:=a2.nd o.sh ho.sh;unfold eZ;split
     ·exact OpJ.same (ms:=[]) a2.gh a1 fun y hy=>absurd hy ay
     split
     ·exact OpJ.same (ms:=[]) a2.gh a1 fun y hy=>absurd hy ay
     ·exact yM a2.gh (a1.setB (c:=(W.nd o.sh).1.cnt+1) (by exact a7)) (lr (fun _=>a7) (by show ¬(1:Int)=5;decide))
    obtain⟨g',q1,q2⟩:=a2.send hl ho.sh b5;refine⟨g',q2,?_⟩;rw[q1];intro id ls q;have e:(g.reg (o.sh*4294967296+(W.nd o.sh).1.cnt) (o.legs.map (·.m))).G id=if id=o.sh*4294967296+(W.nd o.sh).1.cnt then some (o.legs.map (·.m)) else g.G id:=rfl;rw[e] at q;by_cases p:id=o.sh*4294967296+(W.nd o.sh).1.cnt
    ·refine⟨o.sh,(W.nd o.sh).1.cnt,⟨ho.sh,p⟩,b3,?_⟩;have e2:(W.send o.sh (eZ o.sh shs (o.legs.map (·.m)) W.tick (W.tick+o.wait) (W.nd o.sh).1 (W.nd o.sh).2).2).nd o.sh=if o.sh=o.sh then((eZ o.sh shs (o.legs.map (·.m)) W.tick (W.tick+o.wait) (W.nd o.sh).1 (W.nd o.sh).2).2.2.1,(eZ o.sh shs (o.legs.map (·.m)) W.tick (W.tick+o.wait) (W.nd o.sh).1 (W.nd o.sh).2).2.2.2) else W.nd o.sh:=xN (W:=W) hl ho.sh ho.sh;rw[e2,if_pos rfl];dsimp only at a3 ⊢;omega
    ·rw[if_neg p] at q;exact hR.put hl ho.sh (x:=((eZ o.sh shs (o.legs.map (·.m)) W.tick (W.tick+o.wait) (W.nd o.sh).1 (W.nd o.sh).2).2.2.1,(eZ o.sh shs (o.legs.map (·.m)) W.tick (W.tick+o.wait) (W.nd o.sh).1 (W.nd o.sh).2).2.2.2)) (by dsimp only at a3 ⊢;omega) rfl id ls q
  obtain⟨g',q1,q2⟩:=key;exact⟨g',q1.drop rfl fun y hy=>hy,q2.same rfl⟩
 split
 ·have hr:=ll (tick:=W.tick+o.wait) ho.sh h.rng.2 hN.a hN.bd ab;obtain⟨g',q1,q2⟩:=(hC.drop (W':={ W with tick:=W.tick+o.wait }) rfl fun y hy=>hy).send hl ho.sh (Ei (tick:=W.tick+o.wait) hC.gh a0);exact⟨g',q2,by rw[q1];exact hR.put hl ho.sh (x:=((eu o.sh (W.tick+o.wait) (W.nd o.sh).1 (W.nd o.sh).2).2.1,(eu o.sh (W.tick+o.wait) (W.nd o.sh).1 (W.nd o.sh).2).2.2)) (by have e:=hr.cnt;dsimp only at e ⊢;omega) rfl⟩
 split
 ·obtain⟨p1,p2,p3,p4⟩:=qk (s:=kj o.n W.tick) a0.ls.led (by show ¬((1:Int)=4∨(1:Int)=10∨(1:Int)=7∨(1:Int)=9);decide) (by show ¬(1:Int)=5;decide) (by show ¬(1:Int)=6;decide);have q:=hC.put hl ho.sh (ExtJ.refl o.sh g) hC.gh (⟨a0.ls.keep p1 p2 p3 p4,a0.bg,a0.pt,a0.has⟩:NodeJ g o.sh (W.nd o.sh).1 (ce (W.nd o.sh).2 (kj o.n W.tick))) (ms:=[]) fun y hy=>absurd hy ay;exact⟨g,q.drop rfl fun y hy=>bM _ hy,hR.put hl ho.sh (x:=((W.nd o.sh).1,ce (W.nd o.sh).2 (kj o.n W.tick))) (bq _) rfl⟩
 split
 ·exact⟨g,hC,hR⟩
 ·rename_i b9
  have b1:(o.n % W.ms.length).toNat<W.ms.length:=by
   have:=dC o.n (ab:(0:Int)<W.ms.length)
   omega
  have hx:=h.ms _ (aV b1);have b6:=hC.ms _ (aV b1);generalize W.ms[(o.n % W.ms.length).toNat]! = x at *
  have b2:∀W1:WdM,W1=(if o.kind≠3 then { W with ms:=W.ms.take (o.n % W.ms.length).toNat++W.ms.drop ((o.n % W.ms.length).toNat+1) } else W)→W1.nds=W.nds∧∀y∈W1.ms,y∈W.ms:=fun W1 e=>by
   rw[e];split
   ·exact⟨rfl,fun y hy=>lY hy⟩
   ·exact⟨rfl,fun y hy=>hy⟩
  obtain⟨w1,w2⟩:=b2 _ rfl;generalize (if o.kind≠3 then({ W with ms:=W.ms.take (o.n % W.ms.length).toNat++W.ms.drop ((o.n % W.ms.length).toNat+1) }:WdM) else W)=W1 at *;dsimp only;have a6:=hC.drop w1 w2;have a9:=hR.same w1;split
  ·rename_i a4;have a1:=h.at a4.2;have hr:=oe (tick:=W.tick) a4.2 a1.a hx a1.bd hb;have b0:(W1.nds.length:Int)=shs:=by rw[w1];exact hl
   have a5:W1.nd x.to=W.nd x.to:=by unfold WdM.nd;rw[w1]
   obtain⟨g',q1,q2⟩:=a6.send b0 a4.2 (It (shs:=shs) (tick:=W.tick) hC.gh (hC.nd x.to a4.2) b6);exact⟨g',q2,by rw[q1];exact a9.put b0 a4.2 (x:=((eH x.to shs x W.tick (W.nd x.to).1 (W.nd x.to).2).2.1,(eH x.to shs x W.tick (W.nd x.to).1 (W.nd x.to).2).2.2)) (by rw[a5];have e:=hr.cnt;dsimp only at e ⊢;omega) rfl⟩
  ·exact⟨g,a6,a9⟩
