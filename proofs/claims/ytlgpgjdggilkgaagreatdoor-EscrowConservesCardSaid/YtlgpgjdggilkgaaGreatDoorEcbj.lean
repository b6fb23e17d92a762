/- Lemmas. -/
import Derived.Test.YtlgpgjdggilkgaaGreatDoorEcbi
set_option linter.all false
set_option maxHeartbeats 8000000
namespace Go.Proofs.YtlgpgjdggilkgaaGreatDoor
section
open Go.V
structure Sent (sh kd:Int) (y:MsM):Prop where
 ct:CtOk y.ct
 kind:kd<y.ct.kind
 le:y.ct.kind≤6
 frm:y.frm=sh
 own:y.to=sh→y.ct.legs=[]
def jM{κ α:Type}[DecidableEq κ]{l:List (κ×α)}{k:κ}{a:α}{p:κ×α}(h:p∈gins l k a):p=(k,a)∨p∈l:=by
 unfold gins at h;split at h
 ·obtain⟨q,h1,h2⟩:=List.mem_map.1 h;split at h2
  ·exact .inl h2.symm
  ·exact .inr (h2▸h1)
 ·rcases List.mem_append.1 h with h|h
  ·exact .inr h
  ·exact .inl (List.mem_singleton.1 h)
def xj{l l' : List (Int×PtM)}(h:l.Perm l'):(l.map fun p=>de p.2.legs).sum=(l'.map fun p=>de p.2.legs).sum:=(h.map _).sum_nat
def uo{N:NdM}{id:Int}{p q:PtM}(hn:(N.parts.map (·.1)).Nodup)(h:glk N.parts id=some p):pot { N with parts:=gins N.parts id q }+de p.legs=pot N+de q.legs:=by
 have h1:=xj (vv (k:=id) (a:=q) hn);have h2:=xj (nD hn h);rw[aF,cq] at h1 h2;unfold pot;dsimp only at h1 h2 ⊢;omega
def uq{N:NdM}{id:Int}{q:PtM}(hn:(N.parts.map (·.1)).Nodup)(h:glk N.parts id=none):pot { N with parts:=gins N.parts id q }=pot N+de q.legs:=by
 unfold pot;dsimp only;rw[sr h,aJ,ec];rfl
def yp{S:LedM}{kind tick:Int}{ms:List MvM}(h:gOk S kind tick ms=true):(gTry S (esM kind tick ms)).1=0∧1≤ms.length∧ms.length≤64:=by
 have he:(gTry S (esM kind tick ms)).1=0:=by
  refine Classical.byContradiction fun q=>?_;unfold gOk at h;rw[aW q] at h;cases h
 exact⟨he,(jg he).2.2.2.1⟩
def FF{S:LedM}{kind tick:Int}{ms:List MvM}(h:gOk S kind tick ms=true):kOf (gAft S kind tick ms)=kOf S+mvK ms:=by
 rw[kz,if_pos (yp h).1];rfl
def Bw:∀ms:List MvM,ms.length≤mvK ms
 | []=>aq _
 | m::ms=>by
  have:=Bw ms
  show ms.length+1≤(m.parts.length+1)+mvK ms;omega
def Fq{S:LedM}{s:StM}:kOf S≤kOf (ce S s):=by
 rw[kz];split<;>omega
def AZ{sh id pst hold tick:Int}{o:OwM}{S:LedM}:kOf S≤kOf (ee sh id pst hold tick o S).2.2:=by
 by_cases h0:o.state=0
 ·by_cases hB:pst=1∧o.leg.ts≠sh
  ·rw[kB h0 hB];split
   ·exact Fq
   ·exact aq _
  ·obtain⟨to,ht⟩:∃to,to=if pst=2 then o.leg.fr else o.leg.to:=⟨_,rfl⟩;rw[jc h0 hB ht];split
   ·exact Fq
   ·exact aq _
 ·rw[jP h0];exact aq _
def Bb{sh id pst hold tick:Int}:∀{os:List OwM} {S:LedM},kOf S≤kOf (cN sh id pst hold tick os S).2.2
 | [],S=>aq _
 | o::os,S=>by
  simp only[cN];exact aP AZ Bb
def wn{sh id pst hold tick:Int}{o:OwM}{S:LedM}{c:CatM}(hS:LdI sh c (kOf S) S)(hk:kOf S+fL o≤2000)(a2:I64 id)(ho:OwOk o):OwOk (ee sh id pst hold tick o S).2.1∧∀y∈(ee sh id pst hold tick o S).1,Sent sh 3 y:=by
 by_cases h0:o.state=0
 ·have hh:fL o=o.leg.am.length:=if_pos h0;by_cases hB:pst=1∧o.leg.ts≠sh
  ·rw[kB h0 hB];split
   ·rename_i hg;have a0:kOf S+mvK (mvsN hold 0 o.leg.am)≤2000:=by rw[iY];omega
    have h1:=yr hS a0 hg;have h2:=FE hS (kind:=6) (tick:=tick) a0;have a1:OwOk { o with state:=1,flows:=gIds S 6 tick (mvsN hold 0 o.leg.am) }:=⟨ho.1,ho.2.1,by show(gIds S 6 tick (mvsN hold 0 o.leg.am)).length≤1000;omega,h2⟩;refine⟨a1,fun y hy=>?_⟩;obtain rfl:=List.mem_singleton.1 hy;exact⟨mO a2 a1,(show(3:Int)<5 by decide),(show(5:Int)≤6 by decide),rfl,fun q=>absurd q hB.2⟩
   ·exact⟨ho,fun y hy=>by cases hy⟩
  ·obtain⟨to,ht⟩:∃to,to=if pst=2 then o.leg.fr else o.leg.to:=⟨_,rfl⟩;rw[jc h0 hB ht];split
   ·exact⟨⟨ho.1,ho.2.1,ho.2.2.1,ho.2.2.2⟩,fun y hy=>by cases hy⟩
   ·exact⟨ho,fun y hy=>by cases hy⟩
 ·rw[jP h0];exact⟨ho,fun y hy=>by cases hy⟩
def wq{sh id pst hold tick:Int}{c:CatM}(a0:I64 id):∀{os:List OwM} {S:LedM},LdI sh c (kOf S) S→kOf S+de os≤2000→(∀o∈os,OwOk o)→(∀o∈(cN sh id pst hold tick os S).2.1,OwOk o)∧∀y∈(cN sh id pst hold tick os S).1,Sent sh 3 y
 | [],S,_,_,_=>⟨fun o h=>absurd h ay,fun y h=>absurd h ay⟩
 | o::os,S,h,hk,ho=>by
  have e2:∀(a:OwM) (l:List OwM),de (a::l)=fL a+de l:=fun a l=>by unfold de;rw[aF,cq]
  rw[e2] at hk;have h1:=ue (id:=id) (pst:=pst) (hold:=hold) (tick:=tick) (o:=o) h ab;have h2:=wn (id:=id) (pst:=pst) (hold:=hold) (tick:=tick) h ab a0 (ho o av);have h3:=wq (pst:=pst) (hold:=hold) (tick:=tick) a0 (os:=os) h1.1 ab (fun x hx=>ho x (au _ hx));simp only[cN];refine⟨fun x hx=>?_,fun y hy=>?_⟩
  ·rcases List.mem_cons.1 hx with rfl|hx
   ·exact h2.1
   ·exact h3.1 x hx
  ·rcases List.mem_append.1 hy with hy|hy
   ·exact h2.2 y hy
   ·exact h3.2 y hy
def Cu{sh to kd kind id index:Int}{yes:Bool}(h1:I64 kind)(h2:I64 id)(h3:I64 index)(h4:kd<kind)(h5:kind≤6):Sent sh kd ⟨sh,to,ct0 kind id index yes⟩:=⟨ju h1 h2 h3,h4,h5,rfl,fun _=>rfl⟩
def rm{sh kd:Int}{gs W:List Int}{ct:CtM}(h:CtOk ct)(hk:kd<ct.kind)(a0:ct.kind≤6)(hl:ct.legs=[]):∀y∈dl sh gs W ct,Sent sh kd y:=fun y hy=>by
 unfold dl at hy;obtain⟨g,_,rfl⟩:=List.mem_map.1 hy;exact⟨h,hk,a0,rfl,fun _=>hl⟩
def Bu{sh:Int}:∀{k:Int} {ls:List LegM},(∀l∈ls,lM l)→0≤k→k+ls.length≤1000000→(ownM sh k ls).length≤ls.length∧∀o∈ownM sh k ls,OwOk o
 | _,[],_,_,_=>⟨aq _,fun o h=>absurd h ay⟩
 | k,l::ls,h,h0,h1=>by
  rw[aM] at h1 ⊢;have ih:=Bu (sh:=sh) (k:=k+1) (ls:=ls) (fun x hx=>h x (au _ hx)) ab ab;unfold ownM;split
  ·rw[aM];refine⟨ab,fun o ho=>?_⟩;rcases List.mem_cons.1 ho with rfl|ho
   ·exact⟨h l av,by unfold I64;dsimp only;omega,aw _,fun f hf=>by cases hf⟩
   ·exact ih.2 o ho
  ·exact⟨ab,ih.2⟩
def xJ(sh:Int):∀(k:Int) (ls:List LegM),∀o∈ownM sh k ls,o.state=0
 | _,[],o,h=>absurd h ay
 | k,l::ls,o,h=>by
  have ih:=xJ sh (k+1) ls o;have e1:ownM sh k (l::ls)=if l.sh=sh then⟨l,k,0,[]⟩::ownM sh (k+1) ls else ownM sh (k+1) ls:=rfl;rw[e1] at h;split at h
  ·rcases List.mem_cons.1 h with rfl|h
   ·rfl
   ·exact ih h
  ·exact ih h
def HKeep(cat:CatM)(sh kd:Int)(b:Nat)(r:HRes):Prop:=HIn cat sh r.2.1 r.2.2∧kOf r.2.2+pot r.2.1≤b∧∀y∈r.1,Sent sh kd y
def HKeep.none{cat:CatM}{sh kd:Int}{b:Nat}{N:NdM}{S:LedM}(h:HIn cat sh N S)(hb:kOf S+pot N≤b):HKeep cat sh kd b ([],N,S):=⟨h,hb,fun y hy=>absurd hy ay⟩
def HIn.setB{cat:CatM}{sh:Int}{N:NdM}{S:LedM}(h:HIn cat sh N S){id:Int}{x:ExM}(hx:x.givers.length≤100):HIn cat sh { N with begun:=gins N.begun id x } S :=
 ⟨h.led,h.hl,h.nd,fun p hp=>by
  rcases jM hp with rfl|hp
  ·exact hx
  ·exact h.giv p hp,h.pts⟩
def HIn.setP{cat:CatM}{sh:Int}{N:NdM}{S S' : LedM}(h:HIn cat sh N S)(hS:LdI sh cat (kOf S') S')(hk:kOf S≤kOf S'){id:Int}{p:PtM}(hp:PtOk p):HIn cat sh { N with parts:=gins N.parts id p } S' :=
 ⟨hS,⟨h.hl.1,by have:=h.hl.2;dsimp only;omega⟩,jN h.nd,h.giv,fun q hq=>by
  rcases jM hq with rfl|hq
  ·exact hp
  ·exact h.pts q hq⟩
def Gu{cat:CatM}{sh from_ tick:Int}{m:CtM}{N:NdM}{S:LedM}(hN:HIn cat sh N S)(hm:CtOk m){b:Nat}(hb:kOf S+pot N≤b):HKeep cat sh 2 b (gy sh from_ m tick N S):=by
 unfold gy;cases hl:glk N.begun m.id with
 | none=>exact HKeep.none hN hb
 | some x =>
  have hx:=hN.giv _ (cu hl);dsimp only;have h3:I64 3:=by unfold I64;omega
  have h0:I64 0:=by unfold I64;omega
  split
  ·exact HKeep.none hN hb
  ·split
   ·exact⟨hN.setB hx,hb,rm (ju h3 hm.num.2.1 h0) (show(2:Int)<3 by decide) (show(3:Int)≤6 by decide) rfl⟩
   ·split
    ·exact⟨hN.setB hx,hb,fun y hy=>absurd hy ay⟩
    ·exact⟨hN.setB hx,hb,rm (ju h3 hm.num.2.1 h0) (show(2:Int)<3 by decide) (show(3:Int)≤6 by decide) rfl⟩
def Gx{cat:CatM}{sh from_:Int}{m:CtM}{N:NdM}{S:LedM}(hN:HIn cat sh N S){b:Nat}(hb:kOf S+pot N≤b):HKeep cat sh 4 b (jD from_ m N S):=by
 unfold jD NdM.setB;cases hl:glk N.begun m.id with
 | none=>exact HKeep.none hN hb
 | some x=>exact⟨hN.setB (hN.giv _ (cu hl)),hb,fun y hy=>absurd hy ay⟩
def yk(index:Int):∀os:List OwM,de (os.map (jF index))=de os
 | []=>rfl
 | o::os=>by
  have e2:∀(a:OwM) (l:List OwM),de (a::l)=fL a+de l:=fun a l=>by unfold de;rw[aF,cq]
  rw[aF,e2,e2,yk index os];congr 1;unfold jF;split
  ·rename_i h;unfold fL;rw[if_neg (show ¬(2:Int)=0 by decide),if_neg (by rw[h.2];decide)]
  ·rfl
def IV{cat:CatM}{sh:Int}{m:CtM}{N:NdM}{S:LedM}(hN:HIn cat sh N S){b:Nat}(hb:kOf S+pot N≤b):HKeep cat sh 6 b (gotM m N S):=by
 unfold gotM NdM.setP;cases hl:glk N.parts m.id with
 | none=>exact HKeep.none hN hb
 | some p =>
  have hp:=hN.pts _ (cu hl);refine⟨hN.setP hN.led (aq _) ⟨?_,fun o ho=>?_⟩,?_,fun y hy=>absurd hy ay⟩
  ·rw[an];exact hp.legs
  ·obtain⟨q,hq,rfl⟩:=List.mem_map.1 ho;have a0:=hp.ow q hq;unfold jF;split
   ·exact⟨a0.1,a0.2.1,a0.2.2.1,a0.2.2.2⟩
   ·exact a0
  ·have h1:=uo (q:={ p with legs:=p.legs.map (jF m.index) }) hN.nd hl;rw[yk] at h1;dsimp only;omega
def DZ{cat:CatM}{sh tick:Int}{m:CtM}{N:NdM}{S:LedM}(hN:HIn cat sh N S)(hm:CtOk m){b:Nat}(hb:kOf S+pot N≤b)(a2:b≤2000):HKeep cat sh 3 b (fF sh m tick N S):=by
 have h4:I64 4:=by unfold I64;omega
 have h0:I64 0:=by unfold I64;omega
 have a0:Sent sh 3 ⟨sh,ey m.id,ct0 4 m.id 0 false⟩:=Cu h4 hm.num.2.1 h0 ae ae;unfold fF;cases hl:glk N.parts m.id with
 | none =>
  refine⟨hN.setP hN.led (aq _) ⟨aw _,fun o ho=>absurd ho ay⟩,?_,fun y hy=>?_⟩
  ·have h1:=uq (q:=⟨3,0,[]⟩) hN.nd hl;rw[show de ([]:List OwM)=0 from rfl] at h1;dsimp only;omega
  ·obtain rfl:=List.mem_singleton.1 hy;exact a0
 | some p =>
  have hp:=hN.pts _ (cu hl);have a1:=qU (cu hl);dsimp only at a1 ⊢;split
  ·have h1:=qM (sh:=sh) (id:=m.id) (pst:=if m.yes=true then 1 else 2) (hold:=p.hold) (tick:=tick) (os:=p.legs) hN.led ab;have h2:=wq (sh:=sh) (pst:=if m.yes=true then 1 else 2) (hold:=p.hold) (tick:=tick) hm.num.2.1 (os:=p.legs) hN.led ab hp.ow;have h3:=ni sh m.id (if m.yes=true then 1 else 2) p.hold tick p.legs S;refine⟨hN.setP h1.1 Bb ⟨?_,h2.1⟩,?_,fun y hy=>?_⟩
   ·show(cN sh m.id (if m.yes=true then 1 else 2) p.hold tick p.legs S).2.1.length≤32;rw[h3];exact hp.legs
   ·have h5:=uo (q:=⟨if m.yes=true then 1 else 2,p.hold,(cN sh m.id (if m.yes=true then 1 else 2) p.hold tick p.legs S).2.1⟩) hN.nd hl;have h6:=h1.2;dsimp only at h5 ⊢;omega
   ·rcases List.mem_append.1 hy with hy|hy
    ·exact h2.2 y hy
    ·obtain rfl:=List.mem_singleton.1 hy;exact a0
  ·refine⟨hN,hb,fun y hy=>?_⟩;obtain rfl:=List.mem_singleton.1 hy;exact a0
def GK{cat:CatM}{sh tick:Int}{m:CtM}{N:NdM}{S:LedM}(hN:HIn cat sh N S)(hm:CtOk m){b:Nat}(hb:kOf S+pot N+2*amT m.legs≤b)(a4:b≤2000):HKeep cat sh 1 b (iq sh m tick N S):=by
 have h2:I64 2:=by unfold I64;omega
 have h0:I64 0:=by unfold I64;omega
 have hv:∀y:Bool,Sent sh 1 ⟨sh,ey m.id,ct0 2 m.id 0 y⟩:=fun y=>Cu h2 hm.num.2.1 h0 ae ae;have b0:=ur sh 0 m.legs;unfold iq;cases hl:glk N.parts m.id with
 | some p =>
  refine⟨hN,by dsimp only;omega,fun y hy=>?_⟩;obtain rfl:=List.mem_singleton.1 hy;exact hv _
 | none =>
  dsimp only;have a3:=hm.legs;have a1:=Bu (sh:=sh) (k:=0) hm.lg (bq _) ab;have a2:∀o∈ownM sh 0 m.legs,o.state=0:=xJ sh 0 m.legs;have a9:=qd (268435456+N.hl) (ownM sh 0 m.legs) a2;split
  ·rename_i hg;have a7:=FF hg;have a5:=(yp hg).2.1;have a6:=Bw (gL (268435456+N.hl) (ownM sh 0 m.legs));have hS:LdI sh cat (kOf (gAft S 2 tick (gL (268435456+N.hl) (ownM sh 0 m.legs)))) (gAft S 2 tick (gL (268435456+N.hl) (ownM sh 0 m.legs))):=LdJ.post hN.led _ (by show kOf S+mvK (gL (268435456+N.hl) (ownM sh 0 m.legs))≤2000;omega);have hP:=hN.setP (id:=m.id) (p:=⟨0,268435456+N.hl,ownM sh 0 m.legs⟩) hS ab ⟨by dsimp only;omega,a1.2⟩;have a0:=uq (q:=⟨0,268435456+N.hl,ownM sh 0 m.legs⟩) hN.nd hl;refine⟨⟨hP.led,?_,hP.nd,hP.giv,hP.pts⟩,?_,fun y hy=>?_⟩
   ·have:=hN.hl
    dsimp only;omega
   ·show kOf (gAft S 2 tick (gL (268435456+N.hl) (ownM sh 0 m.legs)))+pot { N with parts:=gins N.parts m.id ⟨0,268435456+N.hl,ownM sh 0 m.legs⟩ }≤b;rw[a0];dsimp only;omega
   ·obtain rfl:=List.mem_singleton.1 hy;exact hv _
  ·have a0:=uq (q:=⟨3,268435456+N.hl,[]⟩) hN.nd hl;refine⟨hN.setP hN.led (aq _) ⟨aw _,fun o ho=>absurd ho ay⟩,?_,fun y hy=>?_⟩
   ·dsimp only;rw[a0,show de ([]:List OwM)=0 from rfl];omega
   ·obtain rfl:=List.mem_singleton.1 hy;exact hv _
def Ex{cat:CatM}{sh from_ tick:Int}{m:CtM}{N:NdM}{S:LedM}(hN:HIn cat sh N S)(hm:CtOk m){b:Nat}(hb:kOf S+pot N+2*amT m.legs≤b)(a1:b≤2000):HKeep cat sh 5 b (gC sh from_ m tick N S):=by
 have h6:I64 6:=by unfold I64;omega
 have hv:Sent sh 5 ⟨sh,from_,ct0 6 m.id m.index false⟩:=Cu h6 hm.num.2.1 hm.num.2.2 ae ae;unfold gC;split
 ·refine⟨hN,by dsimp only;omega,fun y hy=>?_⟩;obtain rfl:=List.mem_singleton.1 hy;exact hv
 ·split
  ·rename_i h2;have a0:m.legs[0]!∈m.legs:=by rw[getElem!_of ab];exact bR ab
   have ha:=uP a0;have a3:=rV (to:=m.legs[0]!.to) h2.2;split
   ·rename_i hg;have a2:=FF hg;have hS:LdI sh cat (kOf (gAft S 5 tick (impM m.legs[0]!.to m.legs[0]!.am m.flows))) (gAft S 5 tick (impM m.legs[0]!.to m.legs[0]!.am m.flows)):=LdJ.post hN.led _ (by show kOf S+mvK (impM m.legs[0]!.to m.legs[0]!.am m.flows)≤2000;omega);refine⟨⟨hS,⟨hN.hl.1,by have:=hN.hl.2;dsimp only;omega⟩,hN.nd,hN.giv,hN.pts⟩,?_,fun y hy=>?_⟩
    ·show kOf (gAft S 5 tick (impM m.legs[0]!.to m.legs[0]!.am m.flows))+pot N≤b;omega
    ·obtain rfl:=List.mem_singleton.1 hy;exact hv
   ·exact HKeep.none hN ab
  ·exact HKeep.none hN ab
def sg{cat:CatM}{sh from_ tick:Int}{m:CtM}{N:NdM}{S:LedM}(hN:HIn cat sh N S)(hm:CtOk m){b:Nat}(hb:kOf S+pot N+2*amT m.legs≤b)(a1:b≤2000):HKeep cat sh m.kind b (bZ sh from_ m tick N S):=by
 have a0:kOf S+pot N≤b:=ab;unfold bZ;split
 ·rename_i h;rw[h];exact GK hN hm hb a1
 split
 ·rename_i h;rw[h];exact Gu hN hm a0
 split
 ·rename_i h;rw[h];exact DZ hN hm a0 a1
 split
 ·rename_i h;rw[h];exact Gx hN a0
 split
 ·rename_i h;rw[h];exact Ex hN hm hb a1
 split
 ·rename_i h;rw[h];exact IV hN a0
 exact HKeep.none hN a0
def cn{α:Type}(f:α→NdM→LedM→HRes):List α→NdM→LedM→HRes
 | [],N,S=>([],N,S)
 | m::l,N,S=>((f m N S).1++(cn f l (f m N S).2.1 (f m N S).2.2).1,(cn f l (f m N S).2.1 (f m N S).2.2).2.1,(cn f l (f m N S).2.1 (f m N S).2.2).2.2)
def tO{α:Type}(f:α→NdM→LedM→HRes)(m:α):∀(l:List α) (N:NdM) (S:LedM),cn f (l++[m]) N S=((cn f l N S).1++(f m (cn f l N S).2.1 (cn f l N S).2.2).1,(f m (cn f l N S).2.1 (cn f l N S).2.2).2.1,(f m (cn f l N S).2.1 (cn f l N S).2.2).2.2)
 | [],N,S=>by simp only[ak,cn,aH]
 | x::l,N,S=>by
  rw[al];simp only[cn];rw[tO f m l];simp only[aB]
def pi{α:Type}[Inhabited α](f:α→NdM→LedM→HRes)(l:List α)(N:NdM)(S:LedM){i:Nat}(h:i<l.length):cn f (l.take (i+1)) N S=((cn f (l.take i) N S).1++(f l[i]! (cn f (l.take i) N S).2.1 (cn f (l.take i) N S).2.2).1,(f l[i]! (cn f (l.take i) N S).2.1 (cn f (l.take i) N S).2.2).2.1,(f l[i]! (cn f (l.take i) N S).2.1 (cn f (l.take i) N S).2.2).2.2):=by
 rw[az h,tO,getElem!_of h]
noncomputable def bX(sh tick:Int):Nat→MsM→NdM→LedM→HRes
 | 0,_,N,S=>([],N,S)
 | d+1,m,N,S=>if m.to≠sh then([m],N,S) else cn (bX sh tick d) (bZ sh m.frm m.ct tick N S).1 (bZ sh m.frm m.ct tick N S).2.1 (bZ sh m.frm m.ct tick N S).2.2
def cMx(k:Int):Nat:=if k≤2 then 3300 else if k=3 then 33 else 1
def uN(k:Int):1≤cMx k:=by
 unfold cMx;split
 · decide
 split<;>decide
def sG{k j:Int}(h:k<j):cMx j≤cMx (k+1):=by
 unfold cMx;by_cases h1:j≤2
 ·rw[if_pos h1,if_pos ab];exact aq _
 ·rw[if_neg h1];by_cases h2:j=3
  ·rw[if_pos h2];split
   ·decide
   ·rw[if_pos ab];exact aq _
  ·rw[if_neg h2];split
   ·decide
   ·split<;>decide
def qr{cat:CatM}{sh from_ tick:Int}{m:CtM}{N:NdM}{S:LedM}(hN:HIn cat sh N S):(bZ sh from_ m tick N S).1.length*cMx (m.kind+1)≤cMx m.kind:=by
 have tl:∀(gs:List Int) (ct:CtM),gs.length≤100→(dl sh gs [] ct).length≤100:=fun gs ct h=>aP (jQ sh gs [] ct) h;unfold bZ;split
 ·rename_i h;rw[h]
  have:(iq sh m tick N S).1.length=1:=by
   unfold iq;split
   ·rfl
   ·split<;>rfl
  rw[this];decide
 split
 ·rename_i h;rw[h]
  have:(gy sh from_ m tick N S).1.length≤100:=by
   unfold gy;cases hl:glk N.begun m.id with
   | none=>exact aw _
   | some x =>
    have hx:=hN.giv _ (cu hl);dsimp only at hx ⊢;split
    ·exact aw _
    ·split
     ·exact tl _ _ hx
     ·split
      ·exact aw _
      ·exact tl _ _ hx
  have e1:cMx (2+1)=33:=by decide
  have e2:cMx 2=3300:=by decide
  rw[e1,e2];omega
 split
 ·rename_i h;rw[h]
  have:(fF sh m tick N S).1.length≤33:=by
   unfold fF;cases hl:glk N.parts m.id with
   | none=>exact(show(1:Nat)≤33 by decide)
   | some p =>
    have hp:=(hN.pts _ (cu hl)).legs;dsimp only at hp ⊢;split
    ·have:=ox sh m.id (if m.yes=true then 1 else 2) p.hold tick p.legs S
     rw[aj,aI];omega
    ·exact(show(1:Nat)≤33 by decide)
  have e1:cMx (3+1)=1:=by decide
  have e2:cMx 3=33:=by decide
  rw[e1,e2];omega
 split
 ·show 0*_≤_;omega
 split
 ·rename_i h;rw[h]
  have:(gC sh from_ m tick N S).1.length≤1:=by
   unfold gC;split
   ·exact aq _
   ·split
    ·split
     ·exact aq _
     ·exact aw _
    ·exact aw _
  have e1:cMx (5+1)=1:=by decide
  have e2:cMx 5=1:=by decide
  rw[e1,e2];omega
 split
 ·show 0*_≤_;omega
 show 0*_≤_;omega
structure POk (sh:Int) (d:Nat) (m:MsM):Prop where
 ct:CtOk m.ct
 pos:1≤d
 own:m.to=sh→7≤m.ct.kind+d
def cost(sh:Int)(m:MsM):Nat:=if m.to=sh then 2*amT m.ct.legs else 0
structure Out (sh:Int) (m:MsM):Prop where
 ct:CtOk m.ct
 to:m.to≠sh
def Sent.pok{sh kd:Int}{d:Nat}{y:MsM}(h:Sent sh kd y)(hd:7≤kd+(d+1:Nat)):POk sh d y∧cost sh y=0:=by
 have h1:=h.kind;have h2:=h.le;refine⟨⟨h.ct,ab,fun _=>by omega⟩,?_⟩;unfold cost;split
 ·rename_i q;rw[h.own q];rfl
 ·rfl
def rb{cat:CatM}{sh:Int}{f:MsM→NdM→LedM→HRes}{b C:Nat}(P:MsM→Prop)(hf:∀m N S,P m→HIn cat sh N S→kOf S+pot N≤b→HIn cat sh (f m N S).2.1 (f m N S).2.2∧kOf (f m N S).2.2+pot (f m N S).2.1≤b∧(∀y∈(f m N S).1,Out sh y)∧(f m N S).1.length≤C) :
  ∀(l:List MsM) (N:NdM) (S:LedM),(∀m∈l,P m)→HIn cat sh N S→kOf S+pot N≤b→HIn cat sh (cn f l N S).2.1 (cn f l N S).2.2∧kOf (cn f l N S).2.2+pot (cn f l N S).2.1≤b∧(∀y∈(cn f l N S).1,Out sh y)∧(cn f l N S).1.length≤l.length*C
 | [],N,S,_,hN,hb=>⟨hN,hb,fun y hy=>absurd hy ay,by show 0≤_;omega⟩
 | m::l,N,S,hP,hN,hb=>by
  obtain⟨h1,h2,h3,h4⟩:=hf m N S (hP m av) hN hb;obtain⟨i1,i2,i3,i4⟩:=rb P hf l _ _ (fun x hx=>hP x (au _ hx)) h1 h2;simp only[cn];refine⟨i1,i2,fun y hy=>?_,?_⟩
  ·rcases List.mem_append.1 hy with hy|hy
   ·exact h3 y hy
   ·exact i3 y hy
  ·rw[aj,aM,dc];omega
def oS{cat:CatM}{sh tick:Int}{b:Nat}(a0:b≤2000):∀(d:Nat) (m:MsM) (N:NdM) (S:LedM),POk sh d m→HIn cat sh N S→kOf S+pot N+cost sh m≤b→HIn cat sh (bX sh tick d m N S).2.1 (bX sh tick d m N S).2.2∧kOf (bX sh tick d m N S).2.2+pot (bX sh tick d m N S).2.1≤b∧(∀y∈(bX sh tick d m N S).1,Out sh y)∧(bX sh tick d m N S).1.length≤cMx m.ct.kind
 | 0,m,N,S,hm,_,_=>absurd hm.pos ae
 | d+1,m,N,S,hm,hN,hb=>by
  unfold bX;by_cases ht:m.to=sh
  ·rw[if_neg (fun q=>q ht)];have hc:cost sh m=2*amT m.ct.legs:=if_pos ht;rw[hc] at hb;obtain⟨h1,h2,h3⟩:=sg (from_:=m.frm) (tick:=tick) hN hm.ct hb a0;have hl:=qr (from_:=m.frm) (tick:=tick) (m:=m.ct) hN;have ho:=hm.own ht
   obtain⟨i1,i2,i3,i4⟩:=rb (C:=cMx (m.ct.kind+1)) (fun y=>Sent sh m.ct.kind y) (fun y N' S' hy a1 a2=>by
    obtain⟨p1,p2⟩:=hy.pok (d:=d) ab;obtain⟨q1,q2,q3,q4⟩:=oS (tick:=tick) a0 d y N' S' p1 a1 (by rw[p2];exact a2);exact⟨q1,q2,q3,aP q4 (sG hy.kind)⟩) _ _ _ h3 h1 h2
   exact⟨i1,i2,i3,aP i4 hl⟩
  ·rw[if_pos ht];refine⟨hN,by dsimp only;omega,fun y hy=>?_,uN _⟩;obtain rfl:=List.mem_singleton.1 hy;exact⟨hm.ct,ht⟩
def sB(f:MsM→NdM→LedM→HRes):∀(l:List MsM) (N:NdM) (S:LedM) (i:Nat),(cn f (l.take i) N S).1.length≤(cn f l N S).1.length
 | [],N,S,i=>by rw[List.take_nil];exact aq _
 | m::l,N,S,0=>aw _
 | m::l,N,S,i+1=>by
  have:=sB f l (f m N S).2.1 (f m N S).2.2 i
  rw[List.take_succ_cons];simp only[cn,aj];omega
def qG(k:Int):cMx k≤3300:=by
 unfold cMx;split
 ·exact aq _
 ·split<;>decide
def cloL(bn br bt bp nb:Nat)(tick:Int)(rad:OA)(rl rcap:Nat)(L:LH):LH:=obj bn 62 [ax nb]::obj br 40 [ag rad rl rcap]::obj bt tInt [ac tick]::obj bp 248 [.func (.func 136) #[] #[ax bn,ax br,ax bt,ax bp]]::L
attribute [local irreducible] G GO GP GPW GPK GF GE Ev Ef EfR Ent CB GB V.Enters
abbrev zZ:=XB [.ev 6]
def UJ{φ ψ:Prop}(k:ψ)(h:Hid ψ→φ:=by intro k;(repeat (first|refine aa ?_|intro zzz|refine G.dr 32 1 zZ ?_));(repeat revert zzz);exact Hid.out k):φ:=h ⟨k⟩
def vg(nb lb:Nat)(sh shs:Int)(cat:CatM)(b:Nat)(b9:b≤2000)(tick:Int)(bn br bt bp:Nat):∀(d:Nat) (L:LH) (n:NdV) (S:LedM) (x:MsV) (rad:OA) (rcap:Nat) (rs:List MsV),POk sh d x.m→HIn cat sh n.m S→kOf S+pot n.m+cost sh x.m≤b→rs.length+(bX sh tick d x.m n.m S).1.length≤1000000 →
  Tri Tryz.prog 136 #[aU (bC x),ax bn,ax br,ax bt,ax bp] (cloL bn br bt bp nb tick rad rs.length rcap (osl bC 3 tMs rad rcap rs::allP msP rs::msP x::ndL nb lb sh shs n (aS lb S::L)))
   (fun _ L'=>∃b2 a5 b6 n',b6.map (·.m)=rs.map (·.m)++(bX sh tick d x.m n.m S).1∧n'.m=(bX sh tick d x.m n.m S).2.1∧L' = cloL bn br bt bp nb tick b2 b6.length a5 (osl bC 3 tMs b2 a5 b6::allP msP b6::ndL nb lb sh shs n' (aS lb (bX sh tick d x.m n.m S).2.2::L)))
 | 0,L,n,S,x,rad,rcap,rs,hm,_,_,_=>absurd hm.pos ae
 | d+1,L,n,S,x,rad,rcap,rs,hm,hN,hb,hlen=>by
  refine Tri.bd ?_;simp only[cloL,ndL,ndC];by_cases ht:x.m.to=sh
  case neg =>
   have hr:bX sh tick (d+1) x.m n.m S=([x.m],n.m,S):=if_pos ht;rw[hr] at hlen ⊢;have c4:rs.length+1≤1000000:=hlen;refine UJ ?_;intros;refine GO.ef (Ef.a8 (enc:=bC) (e:=x) rfl rfl rfl rfl rfl aQ (eJ _) ab ab) ae ?_;rintro _ _⟨c6,b8,rfl,rfl⟩;refine UJ ?_;intros;refine KX.a8 aA ?_ ⟨c6,b8,rs++[x],n,by rw[aJ];rfl,rfl,rfl⟩;simp only[cloL,ndL,ndC];refine(Ent.at (A:=msP x) (Ent.d8 (f:=msP) fq)).trans ?_;refine(Ent.at (A:=allP msP [x]) (Ent.refl _)).trans ?_;refine(Ent.at (A:=allP msP rs) (Ent.refl _)).trans ?_;refine(Ent.d7 (f:=msP) fq).trans ?_;exact ah
  have hr:bX sh tick (d+1) x.m n.m S=cn (bX sh tick d) (bZ sh x.m.frm x.m.ct tick n.m S).1 (bZ sh x.m.frm x.m.ct tick n.m S).2.1 (bZ sh x.m.frm x.m.ct tick n.m S).2.2:=if_neg (fun q=>q ht);rw[hr] at hlen ⊢;have hc:cost sh x.m=2*amT x.m.ct.legs:=if_pos ht;rw[hc] at hb;obtain⟨g1,g2,g3⟩:=sg (from_:=x.m.frm) (tick:=tick) hN hm.ct hb b9;have e4:=hm.own ht;have e3:(bZ sh x.m.frm x.m.ct tick n.m S).1.length≤3300:=aP (Nat.le_mul_of_pos_right _ (uN (x.m.ct.kind+1))) (aP (qr (from_:=x.m.frm) (tick:=tick) (m:=x.m.ct) hN) (qG _))
  have a7:=rb (cat:=cat) (sh:=sh) (f:=bX sh tick d) (b:=b) (C:=cMx (x.m.ct.kind+1)) (fun y=>Sent sh x.m.ct.kind y) (fun y N' S' hy d2 d3=>by
   obtain⟨p1,p2⟩:=hy.pok (d:=d) ab;obtain⟨q1,q2,q3,q4⟩:=oS (tick:=tick) b9 d y N' S' p1 d2 (by rw[p2];exact d3);exact⟨q1,q2,q3,aP q4 (sG hy.kind)⟩)
  refine UJ ?_;intros;rename_i b5;refine GO.ent (L':=msP x::ndL nb lb sh shs n (aS lb S::(obj bn 62 [ax nb]::obj br 40 [ag rad rs.length rcap]::obj bt tInt [ac tick]::obj bp 248 [.func (.func 136) #[] #[ax bn,ax br,ax bt,ax bp]]::osl bC 3 tMs rad rcap rs::allP msP rs::L))) (by simp only[ndL,ndC];exact ah) ?_;refine GO.ca (rB nb lb sh shs n S cat x hm.ct hN ab tick) ?_;generalize bZ sh x.m.frm x.m.ct tick n.m S=H at *;rintro _ _⟨b4,a2,ms,n1,rfl,c2,d5,rfl⟩;refine UJ ?_;intros;refine G.loop (α:=Nat×NdV×OA×Nat×List MsV) (fun g=>g.1≤ms.length∧g.2.1.m=(cn (bX sh tick d) (H.1.take g.1) H.2.1 H.2.2).2.1∧g.2.2.2.2.map (·.m)=rs.map (·.m)++(cn (bX sh tick d) (H.1.take g.1) H.2.1 H.2.2).1) (fun g=>[(4,ax bp),(22,ag b4 ms.length a2),(23,ac (ms.length:Int)),(24,ac (g.1:Int))]) (fun g=>obj bn 62 [ax nb]::obj br 40 [ag g.2.2.1 g.2.2.2.2.length g.2.2.2.1]::obj bt tInt [ac tick]::obj bp 248 [.func (.func 136) #[] #[ax bn,ax br,ax bt,ax bp]]::osl bC 3 tMs g.2.2.1 g.2.2.2.1 g.2.2.2.2::allP msP g.2.2.2.2::osl bC 3 tMs b4 a2 ms::allP msP ms::ndL nb lb sh shs g.2.1 (aS lb (cn (bX sh tick d) (H.1.take g.1) H.2.1 H.2.2).2.2::L)) (fun g=>ms.length - g.1) (0,n1,rad,rcap,rs) ⟨aw _,by rw[aR];exact d5,by rw[aR];exact(aH _).symm⟩ aC ?_ ?_
  ·dsimp only;rw[aR];simp only[ndL,ndC,cn];exact ah
  rintro⟨i,n2,a3,a0,a6⟩ ⟨hi,a4,a1⟩;dsimp only at hi a4 a1 ⊢;have e2:H.1.length=ms.length:=by rw[←c2,an]
  by_cases c1:i<ms.length
  case neg =>
   have d6:H.1.take i=H.1:=aD ab;rw[d6] at a4 a1 ⊢;refine UJ ?_;intros;refine KX.c8 aA ?_ ⟨a3,a0,a6,n2,a1,a4,rfl⟩;simp only[ndL,ndC];exact ah
  have d4:(i:Int).toNat=i:=ab;have a9:ms[i]!∈ms:=by rw[getElem!_of c1];exact bR c1
  have d0:H.1[i]! = ms[i]!.m:=by rw[←c2];exact gw (f:=fun x:MsV=>x.m) c1
  have d1:ms[i]!.m∈H.1:=by rw[←c2];exact alStd0List_mem_map_of_mem a9
  obtain⟨p1,p2⟩:=(g3 _ d1).pok (d:=d) ab;obtain⟨f1,f2,f3,f4⟩:=a7 (H.1.take i) H.2.1 H.2.2 (fun y hy=>g3 y (bF hy)) g1 g2;have b1:=pi (bX sh tick d) H.1 H.2.1 H.2.2 (i:=i) ab;rw[d0] at b1;have c0:=sB (bX sh tick d) H.1 H.2.1 H.2.2 (i+1)
  have c4:a6.length+(bX sh tick d ms[i]!.m n2.m (cn (bX sh tick d) (H.1.take i) H.2.1 H.2.2).2.2).1.length≤1000000:=by
   have e1:=congrArg List.length a1;rw[an,aj,an] at e1;rw[b1] at c0;dsimp only at c0;rw[aj] at c0;rw[a4];omega
  refine G.ent (Ent.at (A:=allP msP ms) (Ent.c9 (f:=msP) a9)) ?_;refine UJ ?_;intros;rename_i b7;rw[d4];refine GO.ent (L':=cloL bn br bt bp nb tick a3 a6.length a0 (osl bC 3 tMs a3 a0 a6::allP msP a6::msP ms[i]!::ndL nb lb sh shs n2 (aS lb (cn (bX sh tick d) (H.1.take i) H.2.1 H.2.2).2.2::(osl bC 3 tMs b4 a2 ms::allP msP ms::L)))) (by simp only[cloL,ndL,ndC];exact ah) ?_;refine GO.ef (Ef.c8 (first:=[]) (cap:=[ax bn,ax br,ax bt,ax bp]) (vs:=[aU (bC ms[i]!)]) (vg nb lb sh shs cat b b9 tick bn br bt bp d (osl bC 3 tMs b4 a2 ms::allP msP ms::L) n2 (cn (bX sh tick d) (H.1.take i) H.2.1 H.2.2).2.2 ms[i]! a3 a0 a6 p1 (by rw[a4];exact f1) (by rw[p2,a4];exact f2) c4) rfl rfl) ae ?_;rintro _ _⟨c3,b3,e0,n3,b0,c5,rfl⟩;rw[a4] at b0 c5;simp only[cloL];refine UJ ?_;intros;refine⟨(i+1,n3,c3,b3,e0),⟨by dsimp only;omega,by dsimp only;rw[c5,b1],by dsimp only;rw[b0,a1,b1,aB]⟩,by dsimp only;omega,?_,?_⟩
  ·dsimp only;rw[bh i];exact aC
  ·dsimp only;rw[b1,a4];simp only[ndL,ndC];exact ah
end
section
open Go.V
def fS(sh:Int)(l:List MsM):Nat:=(l.map (cost sh)).sum
def Ea(sh:Int)(l:List MsM):∀i,fS sh (l.take i)≤fS sh l:=fun i=>by
 have h:=congrArg (fun l:List MsM=>(l.map (cost sh)).sum) (cK i l);simp only[aJ,ec] at h;unfold fS;omega
def Eb(sh:Int)(l:List MsM){i:Nat}(h:i<l.length):fS sh (l.take (i+1))=fS sh (l.take i)+cost sh l[i]!:=by
 unfold fS;rw[az h,aJ,ec,getElem!_of h];simp only[aF,bG,cq,List.sum_nil,eA]
def mV{cat:CatM}{sh tick:Int}{d:Nat}:∀(l:List MsM) (N:NdM) (S:LedM) (b:Nat),b≤2000→(∀m∈l,POk sh d m)→HIn cat sh N S→kOf S+pot N+fS sh l≤b→HIn cat sh (cn (bX sh tick d) l N S).2.1 (cn (bX sh tick d) l N S).2.2∧kOf (cn (bX sh tick d) l N S).2.2+pot (cn (bX sh tick d) l N S).2.1≤b∧(∀y∈(cn (bX sh tick d) l N S).1,Out sh y)∧(cn (bX sh tick d) l N S).1.length≤(l.map fun m=>cMx m.ct.kind).sum
 | [],N,S,b,_,_,hN,hb=>⟨hN,by have:fS sh []=0:=rfl;show kOf S+pot N≤b;omega,fun y hy=>absurd hy ay,aq _⟩
 | m::l,N,S,b,hb2,hP,hN,hb=>by
  have e:fS sh (m::l)=cost sh m+fS sh l:=by unfold fS;rw[aF,cq]
  rw[e] at hb;obtain⟨h1,h2,h3,h4⟩:=oS (tick:=tick) (b:=kOf S+pot N+cost sh m) ab d m N S (hP m av) hN (aq _);obtain⟨i1,i2,i3,i4⟩:=mV (tick:=tick) l (bX sh tick d m N S).2.1 (bX sh tick d m N S).2.2 b hb2 (fun x hx=>hP x (au _ hx)) h1 ab;simp only[cn];refine⟨i1,i2,fun y hy=>?_,?_⟩
  ·rcases List.mem_append.1 hy with hy|hy
   ·exact h3 y hy
   ·exact i3 y hy
  ·rw[aj,aF,cq];omega
noncomputable def delM(sh tick:Int)(l:List MsM)(N:NdM)(S:LedM):HRes:=cn (bX sh tick 7) l N S
attribute [local irreducible] G GO GP GPW GPK GF GE Ev Ef EfR Ent CB GB V.Enters bX
def nc{L:LH}(nb lb:Nat)(sh shs:Int)(n:NdV)(S:LedM)(cat:CatM)(b:Nat)(b8:b≤2000)(tick:Int)(ad:OA)(cap:Nat)(ms:List MsV)(hP:∀m∈ms,POk sh 7 m.m)(hN:HIn cat sh n.m S)(hb:kOf S+pot n.m+fS sh (ms.map (·.m))≤b)(c6:ms.length≤1000000)(b1:(delM sh tick (ms.map (·.m)) n.m S).1.length≤1000000) :
  Tri Tryz.prog 86 #[ax nb,ag ad ms.length cap,ac tick] (osl bC 3 tMs ad cap ms::allP msP ms::ndL nb lb sh shs n (aS lb S::L)) (lN nb lb sh shs (delM sh tick (ms.map (·.m)) n.m S) L):=by
 refine Tri.bd ?_;refine Ks ?_;intros;rename_i bn bt br bp;unfold delM at b1 ⊢;have c4:(ms.map (·.m)).length=ms.length:=an _
 have b6:∀m∈ms.map (·.m),POk sh 7 m:=fun m hm=>by
  obtain⟨x,hx,rfl⟩:=List.mem_map.1 hm;exact hP x hx
 refine G.loop (α:=Nat×NdV×OA×Nat×List MsV) (fun g=>g.1≤ms.length∧g.2.1.m=(cn (bX sh tick 7) ((ms.map (·.m)).take g.1) n.m S).2.1∧g.2.2.2.2.map (·.m)=(cn (bX sh tick 7) ((ms.map (·.m)).take g.1) n.m S).1) (fun g=>[(7,ax br),(8,ax bp),(12,ag ad ms.length cap),(13,ac (ms.length:Int)),(14,ac (g.1:Int))]) (fun g=>cloL bn br bt bp nb tick g.2.2.1 g.2.2.2.2.length g.2.2.2.1 (osl bC 3 tMs g.2.2.1 g.2.2.2.1 g.2.2.2.2::allP msP g.2.2.2.2::osl bC 3 tMs ad cap ms::allP msP ms::ndL nb lb sh shs g.2.1 (aS lb (cn (bX sh tick 7) ((ms.map (·.m)).take g.1) n.m S).2.2::L))) (fun g=>ms.length - g.1) (0,n,none,0,[]) ⟨aw _,by rw[aR];rfl,by rw[aR];rfl⟩ aC ?_ ?_
 ·dsimp only;rw[aR];refine(Ent.c8 bC 3 tMs).trans ((Ent.c7 msP).trans ?_);simp only[cloL,ndL,ndC,cn,bz];exact ah
 rintro⟨i,n2,a2,a0,a4⟩ ⟨hi,a3,a1⟩;dsimp only at hi a3 a1 ⊢;simp only[cloL];by_cases b2:i<ms.length
 case neg =>
  have c2:(ms.map (·.m)).take i=ms.map (·.m):=aD ab;rw[c2] at a3 a1 ⊢;refine Ks ?_;intros;refine KX.a8 aA ?_ ⟨a2,a0,a4,n2,rfl,a1,a3,rfl⟩;simp only[ndL,ndC];exact ah
 have c0:(i:Int).toNat=i:=ab;have a5:ms[i]!∈ms:=by rw[getElem!_of b2];exact bR b2
 have b4:(ms.map (·.m))[i]! = ms[i]!.m:=gw (f:=fun x:MsV=>x.m) b2;have b9:=Eb sh (ms.map (·.m)) (i:=i) ab;have c5:=Ea sh (ms.map (·.m)) (i+1);rw[b4] at b9;obtain⟨f1,f2,f3,f4⟩:=mV (tick:=tick) (d:=7) ((ms.map (·.m)).take i) n.m S (kOf S+pot n.m+fS sh ((ms.map (·.m)).take i)) ab (fun m hm=>b6 m (bF hm)) hN (aq _);have a7:=pi (bX sh tick 7) (ms.map (·.m)) n.m S (i:=i) ab;rw[b4] at a7;have b0:=sB (bX sh tick 7) (ms.map (·.m)) n.m S (i+1)
 have c1:a4.length+(bX sh tick 7 ms[i]!.m n2.m (cn (bX sh tick 7) ((ms.map (·.m)).take i) n.m S).2.2).1.length≤1000000:=by
  have e1:=congrArg List.length a1;rw[an] at e1;rw[a7] at b0;dsimp only at b0;rw[aj] at b0;rw[a3];omega
 refine G.ent (Ent.at (A:=allP msP ms) (Ent.c9 (f:=msP) a5)) ?_;refine Ks ?_;intros;rename_i b7;rw[c0];refine GO.ent (L':=cloL bn br bt bp nb tick a2 a4.length a0 (osl bC 3 tMs a2 a0 a4::allP msP a4::msP ms[i]!::ndL nb lb sh shs n2 (aS lb (cn (bX sh tick 7) ((ms.map (·.m)).take i) n.m S).2.2::(osl bC 3 tMs ad cap ms::allP msP ms::L)))) (by simp only[cloL,ndL,ndC];exact ah) ?_;refine GO.ef (Ef.c8 (first:=[]) (cap:=[ax bn,ax br,ax bt,ax bp]) (vs:=[aU (bC ms[i]!)]) (vg nb lb sh shs cat b b8 tick bn br bt bp 7 (osl bC 3 tMs ad cap ms::allP msP ms::L) n2 (cn (bX sh tick 7) ((ms.map (·.m)).take i) n.m S).2.2 ms[i]! a2 a0 a4 (hP _ a5) (by rw[a3];exact f1) (by rw[a3];omega) c1) rfl rfl) ae ?_;rintro _ _⟨b3,a9,c3,n3,a6,b5,rfl⟩;rw[a3] at a6 b5;simp only[cloL];refine Ks ?_;intros;refine⟨(i+1,n3,b3,a9,c3),⟨by dsimp only;omega,by dsimp only;rw[b5,a7],by dsimp only;rw[a6,a1,a7]⟩,by dsimp only;omega,?_,?_⟩
 ·dsimp only;rw[bh i];exact aC
 ·dsimp only;rw[a7,a3];simp only[cloL,ndL,ndC];exact ah
