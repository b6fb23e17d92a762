/- Lemmas. -/
import Derived.Test.YtommnllbflbdmaaGreatDoorAcg
set_option linter.all false
set_option maxHeartbeats 1000000
namespace Go.Proofs.YtommnllbflbdmaaGreatDoor
section
open Go.V
def sumA(f:Int→Int):List Int→Int
 | []=>0
 | a::l=>f a+sumA f l
def oC{f g:Int→Int}:∀{A:List Int},(∀a∈A,f a=g a)→sumA f A=sumA g A
 | [],_=>rfl
 | a::A,h=>by
  have h1:=h a aq;have h2:=oC (A:=A) (fun x hx=>h x (au _ hx));show f a+sumA f A=g a+sumA g A;rw[h1,h2]
def rR{f:Int→Int}{u d:Int}:∀{A:List Int},A.Nodup→sumA (fun a=>f a+(if a=u then d else 0)) A=sumA f A+(if u∈A then d else 0)
 | [],_=>rfl
 | a::A,h=>by
  rw[dN] at h;have ih:=rR (f:=f) (u:=u) (d:=d) (A:=A) h.2;show(f a+(if a=u then d else 0))+sumA (fun a=>f a+(if a=u then d else 0)) A=(f a+sumA f A)+_;rw[ih];by_cases e:a=u
  ·subst e;rw[if_pos rfl,if_neg h.1,if_pos aq];omega
  ·rw[if_neg e];by_cases hm:u∈A
   ·rw[if_pos hm,if_pos (au _ hm)];omega
   ·rw[if_neg hm,if_neg (fun q=>by rcases List.mem_cons.1 q with q|q;exact e q.symm;exact hm q)];omega
def wo(stk:Int→Int→LL)(F:List FlM):Prop:=∀a i,stk a i≠[]→∃f∈F,f.to=a∧f.item=i
structure BalI (stk:Int→Int→LL) (tot:Int→Int) (fl:List FlM):Prop where
 sum:∀i (A:List Int),A.Nodup→0∉A→sumA (fun a=>lsum (stk a i)) A≤tot i
 wld:∀i,stk 0 i=[]
 src:wo stk fl
 top:∀i,tot i≤1099511627776
def BalI.nn{stk:Int→Int→LL}{tot:Int→Int}{fl:List FlM}(h:BalI stk tot fl)(i:Int):0≤tot i:=h.sum i [] List.nodup_nil aU
def BalI.le{stk:Int→Int→LL}{tot:Int→Int}{fl:List FlM}(h:BalI stk tot fl){a:Int}(ha:a≠0)(i:Int):lsum (stk a i)≤tot i:=by
 have:=h.sum i [a] bZ (by simpa using fun q:0=a=>ha q.symm)
 have e:sumA (fun a=>lsum (stk a i)) [a]=lsum (stk a i)+0:=rfl;omega
def FR{sh:Int}{fl:List FlM}{mix:Int→Bool}{s:StM}{W:Wk}{m:MvM}(he:(cm sh fl mix s W m).1=0) :
  gErr sh (fl++W.flows) s W m=0∧cq W m≤1099511627776∧(cm sh fl mix s W m).2.tot=upd W.tot m.item (cq W m)∧(cm sh fl mix s W m).2.flows=W.flows++[eY sh fl.length mix s W m]∧(cm sh fl mix s W m).2.stk=if m.to=0 then gStk mix W m else upd2 (gStk mix W m) m.to m.item (aY (gStk mix W m m.to m.item) (cB sh fl.length W,0,m.n)):=by
 unfold cm at he ⊢;by_cases h1:gErr sh (fl++W.flows) s W m≠0
 ·rw[if_pos h1] at he;exact absurd he h1
 rw[if_neg h1] at he ⊢;by_cases h2:cq W m>1099511627776
 ·rw[if_pos h2] at he;exact absurd (show(4:Int)=0 from he) ag
 rw[if_neg h2] at he ⊢;by_cases h3:m.to=0
 ·rw[if_pos h3,if_pos h3];exact⟨Classical.not_not.1 h1,ab,rfl,rfl,rfl⟩
 rw[if_neg h3] at he ⊢;by_cases h4:4096≤(gStk mix W m m.to m.item).length
 ·rw[if_pos h4] at he;exact absurd (show(4:Int)=0 from he) ag
 rw[if_neg h4,if_neg h3];exact⟨Classical.not_not.1 h1,ab,rfl,rfl,rfl⟩
def vx{sh:Int}{fl:List FlM}{mix:Int→Bool}{s:StM}{W:Wk}{k:Nat}{m:MvM}(h:WkG sh fl k W)(hm:MvG m)(hk:k+m.parts.length≤2000)(hB:BalI W.stk W.tot (fl++W.flows))(he:(cm sh fl mix s W m).1=0) :
  (m.frm≠0→m.n≤lsum (W.stk m.frm m.item))∧(∀a i,a≠0→lsum ((cm sh fl mix s W m).2.stk a i)=lsum (W.stk a i)+(if a=m.frm then(if i=m.item then -m.n else 0) else 0)+(if a=m.to then(if i=m.item then m.n else 0) else 0))∧(∀i,(cm sh fl mix s W m).2.tot i=W.tot i+if i=m.item then byT m else 0)∧BalI (cm sh fl mix s W m).2.stk (cm sh fl mix s W m).2.tot (fl++(cm sh fl mix s W m).2.flows):=by
 obtain⟨e1,e2,e3,e4,e5⟩:=FR he;rw[e3,e4,e5];have hn:=hm.n;have a4:=hm.ne;have a1:m.frm≠0→lsum (lu mix W m)=lsum (W.stk m.frm m.item) - m.n:=fun h0=>yg (mixed:=mix m.item) (h.stk m.frm m.item) hm h0 e1
 have a2:m.frm≠0→m.n≤lsum (W.stk m.frm m.item):=fun h0=>by
  have g1:=(qv (mix:=mix) h hm ab e1 m.frm m.item).lots;unfold gStk upd2 at g1;rw[if_neg h0,if_pos ⟨rfl,rfl⟩] at g1;have:=mP g1
  have:=a1 h0
  omega
 have hG:∀a i,lsum (gStk mix W m a i)=lsum (W.stk a i)+(if m.frm≠0∧a=m.frm∧i=m.item then -m.n else 0):=fun a i=>by
  unfold gStk;by_cases h0:m.frm=0
  ·rw[if_pos h0,if_neg (fun q=>q.1 h0)];omega
  ·rw[if_neg h0];unfold upd2;by_cases hq:a=m.frm∧i=m.item
   ·rw[if_pos hq,if_pos ⟨h0,hq⟩,hq.1,hq.2,a1 h0];omega
   ·rw[if_neg hq,if_neg (fun q=>hq q.2)];omega
 have hS:∀a i,a≠0→lsum ((if m.to=0 then gStk mix W m else upd2 (gStk mix W m) m.to m.item (aY (gStk mix W m m.to m.item) (cB sh fl.length W,0,m.n))) a i)=lsum (W.stk a i)+(if a=m.frm then(if i=m.item then -m.n else 0) else 0)+(if a=m.to then(if i=m.item then m.n else 0) else 0):=fun a i ha=>by
  have g:=hG a i
  have e0:(if m.frm≠0∧a=m.frm∧i=m.item then -m.n else 0)=(if a=m.frm then(if i=m.item then -m.n else 0) else 0):=by
   by_cases q1:a=m.frm
   ·by_cases q2:i=m.item
    ·rw[if_pos ⟨by rw[←q1];exact ha,q1,q2⟩,if_pos q1,if_pos q2]
    ·rw[if_neg (fun q=>q2 q.2.2),if_pos q1,if_neg q2]
   ·rw[if_neg (fun q=>q1 q.2.1),if_neg q1]
  rw[e0] at g;by_cases h0:m.to=0
  ·rw[if_pos h0,g,if_neg (show ¬a=m.to by rw[h0];exact ha)];omega
  ·rw[if_neg h0];unfold upd2;by_cases q1:a=m.to
   ·by_cases q2:i=m.item
    ·rw[if_pos ⟨q1,q2⟩,mK];rw[q1,q2] at g ⊢;rw[g,if_pos (rfl:m.to=m.to),if_pos (rfl:m.item=m.item),if_pos (rfl:m.item=m.item)]
    ·rw[if_neg (fun q=>q2 q.2),g,if_pos q1,if_neg q2];omega
   ·rw[if_neg (fun q=>q1 q.1),g,if_neg q1];omega
 have hT:∀i,upd W.tot m.item (cq W m) i=W.tot i+if i=m.item then byT m else 0:=fun i=>by
  unfold upd cq byT;by_cases q:i=m.item
  ·rw[if_pos q,if_pos q,q];omega
  ·rw[if_neg q,if_neg q];omega
 refine⟨a2,hS,hT,⟨fun i A hA h0=>?_,fun i=>?_,?_,fun i=>?_⟩⟩
 ·rw[hT i];by_cases qi:i=m.item
  case neg =>
   rw[if_neg qi,da]
   rw[oC (g:=fun a=>lsum (W.stk a i)) (fun a ha=>by
    rw[hS a i (fun q=>h0 (q▸ha)),if_neg qi];split<;>split<;>simp)]
   exact hB.sum i A hA h0
  rw[if_pos qi]
  have hs:sumA (fun a=>lsum ((if m.to=0 then gStk mix W m else upd2 (gStk mix W m) m.to m.item (aY (gStk mix W m m.to m.item) (cB sh fl.length W,0,m.n))) a i)) A=sumA (fun a=>lsum (W.stk a i)) A+(if m.frm∈A then -m.n else 0)+(if m.to∈A then m.n else 0):=by
   rw[oC (g:=fun a=>(lsum (W.stk a i)+(if a=m.frm then -m.n else 0))+(if a=m.to then m.n else 0)) (fun a ha=>by rw[hS a i (fun q=>h0 (q▸ha)),if_pos qi,if_pos qi])];rw[rR (f:=fun a=>lsum (W.stk a i)+(if a=m.frm then -m.n else 0)) hA,rR (f:=fun a=>lsum (W.stk a i)) hA]
  rw[hs];have hb:=hB.sum i A hA h0;by_cases f0:m.frm=0
  ·have t0:¬m.to=0:=fun q=>a4 (f0.trans q.symm);have e:byT m=m.n:=by unfold byT;rw[if_pos f0,if_neg t0];omega
   rw[if_neg (by rw[f0];exact h0),e];split<;>omega
  ·have hl:=a2 f0;by_cases fA:m.frm∈A
   ·rw[if_pos fA];by_cases t0:m.to=0
    ·have e:byT m = -m.n:=by unfold byT;rw[if_neg f0,if_pos t0];omega
     rw[if_neg (by rw[t0];exact h0),e];omega
    ·have e:byT m=0:=by unfold byT;rw[if_neg f0,if_neg t0];omega
     rw[e];split<;>omega
   ·rw[if_neg fA];have a5:lsum (W.stk m.frm i)+sumA (fun a=>lsum (W.stk a i)) A≤W.tot i:=hB.sum i (m.frm::A) (List.nodup_cons.2 ⟨fA,hA⟩) (fun q=>by rcases List.mem_cons.1 q with q|q;exact f0 q.symm;exact h0 q);rw[qi] at a5 ⊢;by_cases t0:m.to=0
    ·have e:byT m = -m.n:=by unfold byT;rw[if_neg f0,if_pos t0];omega
     rw[if_neg (by rw[t0];exact h0),e];omega
    ·have e:byT m=0:=by unfold byT;rw[if_neg f0,if_neg t0];omega
     rw[e];split<;>omega
 ·have hg:gStk mix W m 0 i=[]:=by
   unfold gStk;split
   ·exact hB.wld i
   ·rename_i f0;unfold upd2;rw[if_neg (fun q=>f0 q.1.symm)];exact hB.wld i
  split
  ·exact hg
  ·rename_i t0;unfold upd2;rw[if_neg (fun q=>t0 q.1.symm)];exact hg
 ·intro a i a0
  have hold:W.stk a i≠[]→∃f∈fl++(W.flows++[eY sh fl.length mix s W m]),f.to=a∧f.item=i:=fun q=>by
   obtain⟨f,hf,e⟩:=hB.src a i q;exact⟨f,by rw[←aH];exact bQ _ hf,e⟩
  have a3:gStk mix W m a i≠[]→W.stk a i≠[]:=fun q r=>by
   unfold gStk at q;by_cases f0:m.frm=0
   ·rw[if_pos f0] at q;exact q r
   ·rw[if_neg f0] at q;unfold upd2 at q;by_cases hq:a=m.frm∧i=m.item
    ·rw[hq.1,hq.2] at r;have:=a2 f0
     rw[r] at this;have e:lsum ([]:LL)=0:=rfl;omega
    ·rw[if_neg hq] at q;exact q r
  by_cases t0:m.to=0
  ·rw[if_pos t0] at a0;exact hold (a3 a0)
  ·rw[if_neg t0] at a0;by_cases hq:a=m.to∧i=m.item
   ·exact⟨eY sh fl.length mix s W m,bz _ (bz _ aq),hq.1.symm,hq.2.symm⟩
   ·unfold upd2 at a0;rw[if_neg hq] at a0;exact hold (a3 a0)
 ·unfold upd;split
  ·exact e2
  ·exact hB.top i
inductive AccL:LedM→List StM→LedM→Prop
 | nil (S:LedM):AccL S [] S
 | cons {S S' : LedM} {s:StM} {ss:List StM}:(gTry S s).1=0→s.id=aO S→AccL (cS S s) ss S'→AccL S (s::ss) S'
def AccL.snoc{S' : LedM}{s:StM}:∀{ss:List StM} {S:LedM},AccL S ss S'→(gTry S' s).1=0→AccL S (ss++[s.at (aO S')]) (cS S' s)
 | [],_,.nil _,h=>.cons (s:=s.at (aO S')) h rfl (.nil _)
 | u::ss,S,.cons h1 h2 h3,h=>.cons h1 h2 (AccL.snoc h3 h)
def LRep.acc{sh:Int}{c:CatM}{S:LedM}(h:LRep sh c S):AccL (led0 sh c) S.steps S:=by
 induction h with
 | zero=>exact .nil _
 | post h1 h2 ih =>
  have e:(cS _ _).steps=_:=congrArg LedM.steps (if_pos h2);rw[e];exact AccL.snoc (S:=led0 sh c) ih h2
def AccL.pre:∀{ss:List StM} {S S' : LedM},AccL S ss S'→∃z,S'.flows=S.flows++z
 | [],_,_,.nil _=>⟨[],(aQ _).symm⟩
 | s::ss,S,S',.cons h1 h2 h3=>by
  obtain⟨z,hz⟩:=h3.pre;obtain⟨w,hw⟩:=nR S s;exact⟨w++z,by rw[hz,hw,aH]⟩
def FP{S:LedM}{s:StM}(h:(gTry S s).1=0):(cS S s).steps.length=S.steps.length+1:=by
 have e:cS S s=gt S s:=if_pos h;rw[e];show(S.steps++[_]).length=_;rw[ay,aJ]
def yK:∀{ss:List StM} {S S' : LedM},AccL S ss S'→audG S'.flows S.steps.length S ss=(0,0,0)
 | [],S,_,.nil _=>by rw[sJ,if_neg (Nat.lt_irrefl _)]
 | s::ss,S,S',.cons h1 h2 h3=>by
  obtain⟨z,hz⟩:=h3.pre;obtain⟨w,hw⟩:=nR S s;have hl:S'.flows.length=(cS S s).flows.length+z.length:=by rw[hz,ay]
  rw[lh,if_neg (fun q=>q h2),if_neg (fun q=>q h1),if_neg (fun q=>?_),←FP h1]
  ·exact yK h3
  ·rcases q with q|q
   ·omega
   ·refine q ?_;rw[hz,hw,aH,List.drop_left,List.drop_left,ay,Nat.add_sub_cancel_left,List.take_left]
def uI{s:Int}(h0:0≤s)(h1:s≤1099511627776):chgT s=(s,0):=by
 unfold chgT;rw[if_neg ab,if_neg ab]
structure AbsW (n:Nat) (stk:Int→Int→LL) (tot:Int→Int) (t:List Int) (f:Int→Int→Int):Prop where
 len:t.length=n
 t:∀i:Nat,i<n→t[i]! = tot i
 f:∀a i,f a i=if a=0 then 0 else lsum (stk a i)
def IQ{sh:Int}{fl:List FlM}{mix:Int→Bool}{s:StM}{W:Wk}{k n:Nat}{kind:Int}{m:MvM}{t:List Int}{f:Int→Int→Int}(h:WkG sh fl k W)(hm:MvG m)(hv:mvAP n kind m)(hk:k+m.parts.length≤2000)(hB:BalI W.stk W.tot (fl++W.flows))(he:(cm sh fl mix s W m).1=0)(hA:AbsW n W.stk W.tot t f) :
  ∃t' f',jB n t m=(0,t')∧jW n f m=(0,f')∧AbsW n (cm sh fl mix s W m).2.stk (cm sh fl mix s W m).2.tot t' f':=by
 obtain⟨b1,b2,b3,b4⟩:=vx h hm hk hB he;obtain⟨⟨i1,i2⟩,hn,⟨f1,f2⟩,⟨t1,t2⟩,a2,_⟩:=hv;have a4:((m.item.toNat:Nat):Int)=m.item:=ab;have a5:m.item.toNat<n:=ab;have a3:lq n m:=⟨⟨i1,i2⟩,hn,f1,t1⟩;have et:t[m.item.toNat]! = W.tot m.item:=by rw[hA.t _ a5,a4]
 have e1:=b3 m.item;rw[if_pos rfl] at e1;have c0:=b4.nn m.item;have c1:=b4.top m.item
 have hT:jB n t m=(0,t.set m.item.toNat (W.tot m.item+byT m)):=by
  unfold jB;rw[if_neg (fun q=>q a3),et,uI ab ab];rfl
 have a8:∃g,chgH f m.frm m.item (-m.n)=(0,g)∧∀a i,g a i=f a i+(if a≠0∧a=m.frm∧i=m.item then -m.n else 0):=by
  by_cases f0:m.frm=0
  ·refine⟨f,if_pos f0,fun a i=>?_⟩;rw[if_neg (fun q=>q.1 (q.2.1.trans f0)),da]
  ·have ef:f m.frm m.item=lsum (W.stk m.frm m.item):=by rw[hA.f,if_neg f0]
   have l1:=b1 f0;have l2:=hB.le f0 m.item;have l3:=hB.top m.item;have ec:=uI (s:=f m.frm m.item + -m.n) ab ab;refine⟨updH f m.frm m.item (f m.frm m.item + -m.n),?_,fun a i=>?_⟩
   ·unfold chgH;rw[if_neg f0,ec];rfl
   ·unfold updH;by_cases q:a=m.frm∧i=m.item
    ·rw[if_pos q,if_pos ⟨by rw[q.1];exact f0,q⟩,q.1,q.2]
    ·rw[if_neg q,if_neg (fun r=>q r.2),da]
 obtain⟨g,a7,a1⟩:=a8
 have a9:∃g',chgH g m.to m.item m.n=(0,g')∧∀a i,g' a i=g a i+(if a≠0∧a=m.to∧i=m.item then m.n else 0):=by
  by_cases t0:m.to=0
  ·refine⟨g,if_pos t0,fun a i=>?_⟩;rw[if_neg (fun q=>q.1 (q.2.1.trans t0)),da]
  ·have ef:g m.to m.item=lsum (W.stk m.to m.item):=by
    rw[a1,if_neg (fun q=>a2 q.2.1.symm),da,hA.f,if_neg t0]
   have l1:=b2 m.to m.item t0;rw[if_neg (fun q:m.to=m.frm=>a2 q.symm),if_pos (rfl:m.to=m.to),if_pos (rfl:m.item=m.item),da] at l1;have l2:=b4.le t0 m.item;have l4:0≤lsum (W.stk m.to m.item):=mP (h.stk m.to m.item).lots;have ec:=uI (s:=g m.to m.item+m.n) ab ab;refine⟨updH g m.to m.item (g m.to m.item+m.n),?_,fun a i=>?_⟩
   ·unfold chgH;rw[if_neg t0,ec];rfl
   ·unfold updH;by_cases q:a=m.to∧i=m.item
    ·rw[if_pos q,if_pos ⟨by rw[q.1];exact t0,q⟩,q.1,q.2]
    ·rw[if_neg q,if_neg (fun r=>q r.2),da]
 obtain⟨g',b0,a6⟩:=a9;refine⟨_,g',hT,?_,⟨by rw[cu];exact hA.len,fun i hi=>?_,fun a i=>?_⟩⟩
 ·unfold jW;rw[if_neg (fun q=>q a3),a7];exact b0
 ·rw[getElem!_of (by rw[cu,hA.len];exact hi),fJ,b3 i];by_cases q:m.item.toNat=i
  ·rw[if_pos q,if_pos ab,show(i:Int)=m.item by omega]
  ·have:=hA.t i hi
   rw[getElem!_of (by rw[hA.len];exact hi)] at this;rw[if_neg q,if_neg ab,this,da]
 ·rw[a6,a1,hA.f];by_cases a0:a=0
  ·rw[if_pos a0,if_pos a0,if_neg (fun q=>q.1 a0),if_neg (fun q=>q.1 a0)];rfl
  ·rw[if_neg a0,if_neg a0,b2 a i a0]
   have e1:(if a≠0∧a=m.frm∧i=m.item then -m.n else 0)=(if a=m.frm then(if i=m.item then -m.n else 0) else 0):=by
    by_cases q1:a=m.frm
    ·by_cases q2:i=m.item
     ·rw[if_pos ⟨a0,q1,q2⟩,if_pos q1,if_pos q2]
     ·rw[if_neg (fun q=>q2 q.2.2),if_pos q1,if_neg q2]
    ·rw[if_neg (fun q=>q1 q.2.1),if_neg q1]
   have e2:(if a≠0∧a=m.to∧i=m.item then m.n else 0)=(if a=m.to then(if i=m.item then m.n else 0) else 0):=by
    by_cases q1:a=m.to
    ·by_cases q2:i=m.item
     ·rw[if_pos ⟨a0,q1,q2⟩,if_pos q1,if_pos q2]
     ·rw[if_neg (fun q=>q2 q.2.2),if_pos q1,if_neg q2]
    ·rw[if_neg (fun q=>q1 q.2.1),if_neg q1]
   rw[e1,e2]
def BB{sh:Int}{fl:List FlM}{mix:Int→Bool}{s:StM}{n:Nat}{kind:Int}(a0:0≤sh):∀{ms:List MvM} {W:Wk} {k:Nat} {t:List Int} {f:Int→Int→Int},WkG sh fl k W→(∀m∈ms,MvG m∧mvAP n kind m)→k+mvK ms≤2000→BalI W.stk W.tot (fl++W.flows)→(cZ sh fl mix s W ms).1=0→AbsW n W.stk W.tot t f →
  BalI (cZ sh fl mix s W ms).2.stk (cZ sh fl mix s W ms).2.tot (fl++(cZ sh fl mix s W ms).2.flows)∧∃t' f',(∀r,totF n (ms++r) t=totF n r t')∧(∀r,hldF n (ms++r) f=hldF n r f')∧AbsW n (cZ sh fl mix s W ms).2.stk (cZ sh fl mix s W ms).2.tot t' f'
 | [],W,_,t,f,_,_,_,hB,_,hA=>⟨hB,t,f,fun _=>rfl,fun _=>rfl,hA⟩
 | m::ms,W,k,t,f,h,hm,hk,hB,he,hA=>by
  have e:cZ sh fl mix s W (m::ms)=if(cm sh fl mix s W m).1=0 then cZ sh fl mix s (cm sh fl mix s W m).2 ms else((cm sh fl mix s W m).1,W):=rfl;have ek:mvK (m::ms)=(m.parts.length+1)+mvK ms:=rfl;rw[e] at he ⊢;by_cases h1:(cm sh fl mix s W m).1=0
  ·rw[if_pos h1] at he ⊢;obtain⟨hg,hv⟩:=hm m aq;obtain⟨t1,f1,q1,q2,q3⟩:=IQ h hg hv ab hB h1 hA;obtain⟨_,_,_,b4⟩:=vx h hg ab hB h1;obtain⟨r0,t',f',r1,r2,r3⟩:=BB a0 (ms:=ms) (nh a0 h hg ab h1).1 (fun x hx=>hm x (au _ hx)) ab b4 he q3;refine⟨r0,t',f',fun r=>?_,fun r=>?_,r3⟩
   ·rw[ao,uR,q1];exact r1 r
   ·rw[ao,vq,q2];exact r2 r
  ·rw[if_neg h1] at he;exact absurd he h1
def mvsM(ss:List StM):List MvM:=ss.flatMap (·.moves)
def vf:∀ss:List StV,fD ss=mvsM (ss.map StV.m)
 | []=>rfl
 | s::ss=>by
  rw[oS,vf ss];rfl
def BU{n:Nat}:∀{ss:List StM} {S S' : LedM} {k:Nat} {t:List Int} {f:Int→Int→Int},AccL S ss S'→LedA k S→k+stK ss≤2000→S.cat.items.length=n→BalI S.stk S.tot S.flows→AbsW n S.stk S.tot t f →
  BalI S'.stk S'.tot S'.flows∧∃t' f',totF n (mvsM ss) t=(0,t')∧hldF n (mvsM ss) f=(0,f')∧AbsW n S'.stk S'.tot t' f'
 | [],_,_,_,t,f,.nil _,_,_,_,hB,hA=>⟨hB,t,f,rfl,rfl,hA⟩
 | s::ss,S,S',k,t,f,.cons h1 h2 h3,hL,hk,hn,hB,hA=>by
  have ek:stK (s::ss)=mvK s.moves+stK ss:=rfl;have hp:=kZ h1;have a1:=(possG_A.1 hp).2.2.2.2.1;have hg:=mJ hp;have e:=uA h1;have eP:cS S s=gt S s:=if_pos h1;have h4:=h1;rw[e] at h4;have a0:S.flows++(wk0 S).flows=S.flows:=aQ _;obtain⟨b,t1,f1,q1,q2,q3⟩:=BB (n:=n) (kind:=s.kind) hL.g.shard.1 (sL hL).g (fun m hm=>⟨(hg m hm).g,by rw[←hn];exact a1 m hm⟩) ab (by rw[a0];exact hB) h4 hA;rw[←e] at b q3;have c:(cS S s).cat.items.length=n:=by rw[nw];exact hn
  obtain⟨r0,t',f',r1,r2,r3⟩:=BU h3 (rb hL ab).1 ab c (by rw[eP];exact b) (by rw[eP];exact q3);have em:mvsM (s::ss)=s.moves++mvsM ss:=bB;exact⟨r0,t',f',by rw[em,q1];exact r1,by rw[em,q2];exact r2,r3⟩
def GY(sh:Int)(c:CatM):BalI (led0 sh c).stk (led0 sh c).tot (led0 sh c).flows:=by
 refine⟨fun i A _ _=>?_,fun _=>rfl,fun a i h=>absurd rfl h,fun _=>by show(0:Int)≤1099511627776;omega⟩;show sumA (fun _=>lsum ([]:LL)) A≤0
 have:∀A:List Int,sumA (fun _=>lsum ([]:LL)) A=0:=fun A=>by
  induction A with
  | nil=>rfl
  | cons a A ih =>
   show(0:Int)+sumA (fun _=>lsum ([]:LL)) A=0;rw[ih];rfl
 rw[this];exact bg _
def GZ(sh:Int)(c:CatM)(n:Nat):AbsW n (led0 sh c).stk (led0 sh c).tot (List.replicate n 0) (fun _ _=>0):=by
 refine⟨List.length_replicate,fun i hi=>?_,fun a i=>?_⟩
 ·rw[getElem!_of (by rw[List.length_replicate];exact hi),List.getElem_replicate];rfl
 ·show(0:Int)=if a=0 then 0 else lsum ([]:LL);split<;>rfl
def LedM.asX(S:LedM)(x:LedX):LedM:={ S with imp:=fun i=>(eA x.imp i).lots,ret:=fun i=>(eA x.ret i).lots }
def LedFG.toF{S:LedM}{x:LedX}(h:LedFG S x):LedF (S.asX x) x:=⟨h.cat,h.catB,h.stk,h.full,h.tot,h.steps,h.flows,fun _=>rfl,fun _=>rfl⟩
def tG{α:Type}[DecidableEq α]:∀{l m:List α},l.Nodup→(∀x∈l,x∈m)→l.length≤m.length
 | [],_,_,_=>aw _
 | x::l,m,hn,hs=>by
  obtain⟨h1,h2⟩:=List.nodup_cons.1 hn;have hx:=hs x aq;have h3:=tG (m:=m.erase x) h2 (fun y hy=>(List.mem_erase_of_ne (fun e=>h1 (by rw[←e];exact hy))).2 (hs y (au _ hy)));have h4:=List.length_erase_of_mem hx;have h5:=List.length_pos_of_mem hx;rw[bh];omega
def balF(S:LedM)(a i:Int):Int:=lsum (S.stk a i)
def lS(p:(Int×Int)×Stk):Hd:=(p.1.1,p.1.2,lsum p.2.lots)
def BD{S:LedM}(h:S.Ok){a i:Int}:lsum (S.stk a i)≠0↔S.stk a i≠[]:=by
 constructor
 ·intro q e;exact q (by rw[e];rfl)
 ·intro q;have:=jk (h.stk a i).2 (List.length_pos_iff.2 q)
  omega
def Hf{S:LedM}{x:LedX}(hS:S.Ok)(hF:LedF S x)(hn:(x.stk.map (·.1)).Nodup){ys:List Hd}(hy:ez hdC (x.stk.map lS) ys):HoldL (balF S) ys:=by
 have a1:∀p∈x.stk,S.stk p.1.1 p.1.2=p.2.lots:=fun p hp=>by
  rw[←hF.stk];unfold eA glk;rw[iT hn hp];rfl
 have a0:(ys.map (fun h=>(h.1,h.2.1))).Nodup:=by
  refine((hy.1.map _).nodup_iff).2 ?_;rw[gy];exact hn
 constructor
 ·have h2:=List.pairwise_map.1 a0;refine(List.pairwise_and_iff.2 ⟨hy.2,h2⟩).imp (fun {a b} h=>?_);obtain⟨q1,q2⟩:=h;rw[ml] at q1;have q3:¬(a.1=b.1∧a.2.1=b.2.1):=fun e=>q2 (by rw[e.1,e.2]);unfold klt at q1 ⊢;omega
 ·intro h;rw[hy.1.mem_iff,List.mem_map];constructor
  ·rintro⟨p,hp,rfl⟩;have e:=a1 p hp;refine⟨?_,?_⟩
   ·show lsum p.2.lots=lsum (S.stk p.1.1 p.1.2);rw[e]
   ·show lsum p.2.lots≠0;rw[←e];refine(BD hS).2 ?_;rw[e];exact hF.full p hp
  ·rintro⟨e1,e2⟩;have h3:S.stk h.1 h.2.1≠[]:=(BD hS).1 (by rw[e1] at e2;exact e2);have h4:=hF.stk h.1 h.2.1;unfold eA at h4;cases hg:glk x.stk (h.1,h.2.1) with
   | none =>
    rw[hg] at h4;exact absurd h4.symm h3
   | some s =>
    rw[hg] at h4;refine⟨((h.1,h.2.1),s),iS hg,?_⟩;obtain⟨a,i,n⟩:=h;show(a,i,lsum s.lots)=(a,i,n);have h5:s.lots=S.stk a i:=h4;rw[h5];have h6:n=lsum (S.stk a i):=e1;rw[h6]
def GA{S:LedM}{x:LedX}(hS:wo S.stk S.flows)(hF:LedF S x)(hn:(x.stk.map (·.1)).Nodup):x.stk.length≤S.flows.length:=by
 have h:=tG (m:=S.flows.map (fun f=>(f.to,f.item))) hn (fun k hk=>by
  obtain⟨p,hp,rfl⟩:=List.mem_map.1 hk
  have e:S.stk p.1.1 p.1.2=p.2.lots:=by
   rw[←hF.stk];unfold eA glk;rw[iT hn hp];rfl
  obtain⟨f,hf,e1,e2⟩:=hS p.1.1 p.1.2 (by rw[e];exact hF.full p hp);exact List.mem_map.2 ⟨f,hf,by rw[e1,e2]⟩)
 rw[aA,aA] at h;exact h
def LedG.ok{k:Nat}{S:LedM}(h:LedG k S)(hk:k≤4096):S.Ok:=⟨h.shard,h.steps,h.flows,fun a i=>⟨cK (h.stk a i).len hk,(h.stk a i).lots⟩,h.tot⟩
def HA:SetS (eA ([]:List (Int×Stk))) []:=GH
attribute [local irreducible] G GO GP GPW GPK GF GE Ev Ef EfR Ent CB GB V.Enters
abbrev Du:=ay3 [.ev 5,.ev 6,.ev 7,.ev 8,.ef 4,.ef 9,.ef 10,.ef 11,.ev 12]
def au8{φ ψ:Prop}(k:ψ)(h:Hid ψ→φ:=by intro k;(repeat (first|refine aa ?_|intro zzz|refine G.dr 17 1 Du ?_));(repeat revert zzz);exact Hid.out k):φ:=h ⟨k⟩
def AZ{L:LH}(x y:Hd):Tri ai 72 #[aN (fj x),aN (fj y)] L (fun v L'=>v=ac (hdC x y)∧L' = L):=by
 refine Tri.bd ?_;refine au8 ?_;intros;refine GPW.cr (iy x.1 y.1) ?_;refine au8 ?_;intros;refine GPW.cr (iy x.2.1 y.2.1) ?_;refine au8 ?_;intros;rename_i bc;refine GPW.ent (Ent.f7 (enc:=encZ .i64) (sz:=1) (xs:=[cmpI x.1 y.1,cmpI x.2.1 y.2.1]) rfl rfl (fun _ _=>rfl) bZ) ?_;refine GPW.cr (lp (some ⟨bc,0,none⟩) 2 (cmpI x.1 y.1) (cmpI x.2.1 y.2.1)) ?_;refine au8 ?_;intros;exact KX.en ⟨rfl,rfl⟩
def xP{E cap:Nat}{ad:OA}{xs:List Hd}(a0:xs.length<4611686018427387904) :
  Tri ai 56 #[ah ad xs.length cap,.func (.func 72) #[] #[]] [osl fj 3 E ad cap xs] (fun v L'=>v=.tuple #[]∧∃ys,ez hdC xs ys∧L' = [osl fj 3 E ad cap ys]) :=
 Tri.d7 (ρ:=Tryz.sortH_ren) Tryz.sortH (k:=3) Tryz.isAgg112 Tryz.sizeOf112 (fun _=>rfl) nB (Lc:=[]) hdC qZ en56 en72.1 (fun _ _ _=>trivial) (fun x y=>(AZ (L:=[]) x y).mono (fun _ _ h=>h.1)) a0
abbrev Dv:=ay4 [.ef 6,.ev 7,.ef 8,.ef 9,.ev 10]
def av2{φ ψ:Prop}(k:ψ)(h:Hid ψ→φ:=by intro k;(repeat (first|refine aa ?_|intro zzz|refine G.dr 35 5 Dv ?_));(repeat revert zzz);exact Hid.out k):φ:=h ⟨k⟩
def DQ{L:LH}(b:Nat)(S:LedM)(x:LedX)(hF:LedF S x)(hO:S.Ok)(hS:wo S.stk S.flows)(b4:S.flows.length≤100000) :
  Tri ai 28 #[ax b] (obj b tLed (bJ S.shard x)::gmap kvP Stk.v x.ms x.stk::allP (fun p:(Int×Int)×Stk=>stkP p.2) x.stk::L) (fun v L'=>∃ad cap hs,v=ah ad hs.length cap∧(HoldL (balF S) hs∧hs.length≤4194304)∧L' = osl fj 3 tHd ad cap hs::obj b tLed (bJ S.shard x)::gmap kvP Stk.v x.ms x.stk::allP (fun p:(Int×Int)×Stk=>stkP p.2) x.stk::L):=by
 refine Tri.bd ?_;simp only[bJ];refine G.g7 (km (b:=x.ms) (m:=x.stk) (kv:=kvP) (enc:=Stk.v)) ?_;intro a0;have a7:=GA hS hF a0;refine av2 ?_;intros;refine GO.ev (Ev.C4 rfl) ag ?_;refine av2 ?_;intros;refine GO.ef (Ef.e9 fj ((0,0,0):Int×Int×Int) rfl rfl rfl ag ab ab ab) ag ?_;rintro _ _⟨bs,rfl,rfl⟩;rw[show List.replicate (0:Int).toNat ((0,0,0):Int×Int×Int)=[] from rfl];refine av2 ?_;intros;refine GO.ef (Ef.l7 rfl) ag ?_;rintro _ _⟨r,rfl,rfl⟩;refine av2 ?_;intros;refine G.loop (α:=OA×Nat×List ((Int×Int)×Stk)) (fun z=>z.2.2.length≤x.stk.length) (fun z=>[(3,ah z.1 (z.2.2.map lS).length z.2.1),(16,ax r)]) (fun z=>iD kvP Stk.v x.ms x.stk r z.2.2::osl fj 3 tHd z.1 z.2.1 (z.2.2.map lS)::obj b tLed (bJ S.shard x)::allP (fun p:(Int×Int)×Stk=>stkP p.2) x.stk::L) (fun z=>x.stk.length - z.2.2.length) (some ⟨bs,0,none⟩,(x.stk.length:Int).toNat,[]) (aw _) av (Ent.refl _) ?_;rintro⟨ad,cap,done⟩ a6;dsimp only at a6 ⊢;have b3:(done.map lS).length=done.length:=by simp
 refine av2 ?_;intros;refine GO.ef (Ef.l8 rfl) ag ?_;rintro _ _ (⟨rfl,rfl,hp⟩|⟨p,rfl,rfl,a5,b5,b2⟩)
 ·have b1:=hp.length_eq;refine av2 ?_;intros;(first|refine GO.ef (Ef.call (xP (E:=tHd) (ad:=ad) (cap:=cap) (xs:=done.map lS) ab) rfl cJ) ag ?_);rintro _ _⟨_,⟨rfl,ys,a2,rfl⟩,hL⟩;simp only[ao,an] at hL;subst hL;refine av2 ?_;intros;have a1:ez hdC (x.stk.map lS) ys:=⟨a2.1.trans (hp.map lS),a2.2⟩;have b0:=a2.1.length_eq;refine KX.d7 al ?_ ⟨ad,cap,ys,by rw[b0];rfl,⟨Hf hO hF a0 a1,ab⟩,rfl⟩;refine(Ent.at (A:=iD kvP Stk.v x.ms x.stk r done) Ent.o0).trans ?_;exact ae
 have a8:p.2.lots=S.stk p.1.1 p.1.2:=by
  rw[←hF.stk];unfold eA glk;rw[iT a0 a5];rfl
 obtain⟨a9,a4⟩:=hO.stk p.1.1 p.1.2;rw[←a8] at a9 a4;refine GO.ent (Ent.at (A:=allP (fun p:(Int×Int)×Stk=>stkP p.2) x.stk) (Ent.e7 (x:=p) a5)) ?_;refine av2 ?_;intros;refine GO.ev (Ev.l7 (done:=done) rfl rfl) ag ?_;simp only[kvP,Stk.v,bM,ga];refine av2 ?_;intros;refine GPW.cr (nI p.2.ad _ p.2.cap p.2.lots rfl ab a4) ?_;refine av2 ?_;intros;refine GPW.ef (Ef.d7 (enc:=fj) (e:=lS p) rfl rfl rfl rfl rfl aK (nB _) ab ab) ag ?_;rintro _ _⟨ad2,a3,rfl,rfl⟩;refine av2 ?_;intros;refine⟨(ad2,a3,done++[p]),by dsimp only;simp;omega,by dsimp only;simp;omega,?_,?_⟩
 ·dsimp only;rw[aW];exact av
 ·dsimp only;rw[aW,show List.map lS [p]=[lS p] from rfl];exact ae
def vZ{L:LH}(b:Nat)(S:LedM)(hO:S.Ok)(hS:wo S.stk S.flows)(a0:S.flows.length≤100000) :
  Tri ai 28 #[ax b] (LedR b S::L) (fun v L'=>∃ad cap hs,v=ah ad hs.length cap∧(HoldL (balF S) hs∧hs.length≤4194304)∧L' = osl fj 3 tHd ad cap hs::LedR b S::L):=by
 refine Tri.e9 (g:=ledA b S) en28.1 ?_;intro x;show Tri _ _ _ (dz (LedF S x)::ledL b S.shard x L) _;refine Tri.e8 en28.1 ?_;intro hF;refine((DQ (L:=gmap kvI encN x.mt x.tot::asl aT 7 be x.sad x.scap x.steps::asl bL 11 cz x.fad x.fcap x.flows::gmap kvI Stk.v x.mi x.imp::gmap kvI Stk.v x.mr x.ret::catP x.cat::allP cC x.steps::allP flP x.flows::allP (fun p:Int×Stk=>stkP p.2) x.imp::allP (fun p:Int×Stk=>stkP p.2) x.ret::L) b S x hF hO hS a0).pre (by simp only[ledL,ao,an];exact ae)).conseq ?_;rintro _ _⟨ad,cap,hs,h1,h2,rfl⟩;refine⟨_,⟨ad,cap,hs,h1,h2,rfl⟩,?_⟩;refine Ent.trans ?_ (Ent.d7 (jL x hF));simp only[ledL];exact ae
def DL{L:LH}(sh:Int)(c:CatV)(a1:0≤sh∧sh<12)(hB:c.B)(h:CatGood c.m):Tri ai 23 #[ac sh,aN c.cells] (catP c::cA::L) (fun v L'=>∃b,v=.tuple #[ax b,ac 0]∧L' = rh b (led0 sh c.m)::catP c::cA::L):=by
 obtain⟨h1,h2⟩:=a1;refine Tri.bd ?_;simp only[CatV.cells];refine Jq ?_;intros;rename_i b3;refine GO.ent (L':=catP c::cA::obj b3 tCat c.cells::L) (by simp only[CatV.cells];exact ae) ?_;refine GO.cr (vF c hB h) ?_;simp only[CatV.cells];refine Jq ?_;intros;refine GO.ent (L':=catP c::cA::obj b3 tCat c.cells::L) (by simp only[CatV.cells];exact ae) ?_;refine GO.ca (pJ c hB) ?_;rintro _ _⟨c',rfl,a0,rfl⟩;simp only[CatV.cells];refine GO.ef (Ef.d9 kvP Stk.v (.inl rfl)) ag ?_;rintro _ _⟨b1,rfl,rfl⟩;refine GO.ef (Ef.d9 kvI encN (.inl rfl)) ag ?_;rintro _ _⟨b2,rfl,rfl⟩;refine GO.ef (Ef.d9 kvI Stk.v (.inl rfl)) ag ?_;rintro _ _⟨b4,rfl,rfl⟩;refine GO.ef (Ef.d9 kvI Stk.v (.inl rfl)) ag ?_;rintro _ _⟨b5,rfl,rfl⟩;refine Jq ?_;intros;rename_i b6;refine KX.d7 al ?_ ⟨b6,rfl,rfl⟩;refine Ent.trans ?_ (qk (S:=led0 sh c.m) ⟨c',b1,b2,b4,b5,[],[],[],[],[],none,0,[],none,0⟩ ⟨a0,CatV.d7 a0 hB,fun _ _=>rfl,(fun _ h=>by cases h),fun _=>rfl,rfl,rfl,HA,HA⟩);simp only[ledL,bJ,led0];refine(Ent.d8 aT 7 be).trans (Ent.ofOsl.trans ((Ent.d8 bL 11 cz).trans (Ent.ofOsl.trans ?_)));refine(Ent.d9 (fun p:(Int×Int)×Stk=>stkP p.2)).trans ((Ent.d9 cC).trans ((Ent.d9 flP).trans ((Ent.d9 (fun p:Int×Stk=>stkP p.2)).trans ((Ent.d9 (fun p:Int×Stk=>stkP p.2)).trans ?_))));exact ae
end
section
open Go.V
attribute [local irreducible] G GO GP GPW GPK GF GE Ev Ef EfR Ent CB GB V.Enters
def mvC(m:MvV):Prop:=m.m.parts.length≤m.pcap
def stC(s:StV):Prop:=s.moves.length≤s.mcap∧∀m∈s.moves,mvC m
def yE{L:LH}(m:MvV)(hl:m.m.parts.length≤1000000) :
  Tri ai 126 #[aN (aM m)] (mvP m::L) (fun v L'=>∃m',v=aN (aM m')∧(m'.m=m.m∧mvC m')∧L' = mvP m'::mvP m::L):=by
 obtain⟨⟨frm,to,item,n,parts⟩,pad,pcap⟩:=m;dsimp only at hl;refine Tri.bd (args:=[aN (aM ⟨⟨frm,to,item,n,parts⟩,pad,pcap⟩)]) ?_;refine Jq ?_;intros;refine GO.ca (ig pad parts.length pcap parts rfl ab) ?_;rintro _ _⟨a1,a0,rfl,rfl⟩;refine GO.d9 (iq (ad:=a1) (cap:=a0) (xs:=parts) (enc:=aj) (sz:=3) (E:=tLot)) ?_;rintro⟨hc,_⟩;refine Jq ?_;intros;refine KX.d7 (by exact ResOk.cell rfl aK (ResOk.nil)) ?_ ⟨⟨⟨frm,to,item,n,parts⟩,a1,a0⟩,rfl,⟨rfl,hc⟩,rfl⟩;refine(Ent.frz a1).trans ?_;exact ae
def yx{L:LH}(ad:OA)(c:Nat)(ms:List MvV)(hl:ms.length≤64)(hp:∀m∈ms,m.m.parts.length≤1000000) :
  Tri ai 125 #[ah ad ms.length c,.func (.func 126) #[] #[]] (isl aM 5 ad ms::allP mvP ms::L) (fun v L'=>∃a4 c' a0,v=ah a4 a0.length c'∧(a0.map (·.m)=ms.map (·.m)∧a0.length≤c'∧∀m∈a0,mvC m)∧L' = osl aM 5 tMv a4 c' a0::allP mvP a0::isl aM 5 ad ms::allP mvP ms::L):=by
 refine Tri.bd ?_;by_cases h0:ms.length=0
 ·have e:ms=[]:=aX h0;subst e;refine Jq ?_;intros;exact KX.d7 al ((Ent.d9 mvP).trans (Ent.d8 aM 5 tMv)) ⟨none,0,[],rfl,⟨rfl,aB _,(fun m h=>by cases h)⟩,rfl⟩
 refine Jq ?_;intros;refine GO.ef (Ef.e9 aM mv0 rfl rfl rfl ab ab ab ab) ag ?_;rintro _ _⟨bs,rfl,rfl⟩;rw[show(ms.length:Int).toNat=ms.length by omega];refine Jq ?_;intros
 refine G.loop (α:=Nat×List MvV) (fun z=>z.1≤ms.length∧z.2.length=ms.length∧((z.2.take z.1).map (·.m)=(ms.take z.1).map (·.m)∧∀m∈z.2.take z.1,mvC m)) (fun  z=>[(1,.func (.func 126) #[] #[]),(5,ah (some ⟨bs,0,none⟩) ms.length ms.length),(14,ah ad ms.length c),(15,ac (ms.length:Int)),(16,ac (z.1:Int))])
  (fun z=>osl aM 5 tMv (some ⟨bs,0,none⟩) ms.length z.2::allP mvP (z.2.take z.1)::isl aM 5 ad ms::allP mvP ms::L) (fun z=>ms.length - z.1) (0,List.replicate ms.length mv0) ⟨aw _,by simp,by simp,(fun m h=>by rw[bH] at h;cases h)⟩ av ?_ ?_
 ·dsimp only;rw[bH];refine(Ent.d9 mvP).trans ?_;exact ae
 rintro⟨i,zs⟩ ⟨hi,a5,a2,a1⟩;dsimp only at hi a5 a2 a1 ⊢;by_cases a3:i<ms.length
 case neg =>
  have a8:i=ms.length:=ab;subst a8;rw[aF ab,aF ab] at a2;rw[aF ab] at a1;rw[aF (ab:zs.length≤ms.length)];refine Jq ?_;intros;refine KX.d7 al (Ent.refl _) ⟨some ⟨bs,0,none⟩,ms.length,zs,by rw[a5];rfl,⟨a2,ab,a1⟩,rfl⟩
 have a7:(i:Int).toNat=i:=ab;have a6:ms[i]!∈ms:=aI a3;refine Jq ?_;intros;rw[a7];refine GO.ent (Ent.at (A:=allP mvP ms) (Ent.e7 (x:=ms[i]!) a6)) ?_;refine GO.ef (Ef.d8 rfl rfl (yE ms[i]! (hp _ a6))) ag ?_;rintro _ _⟨m',rfl,⟨b0,a9⟩,rfl⟩;refine Jq ?_;intros;refine GO.efu (Ef.e8 (e:=m') rfl rfl aK aK (jN _) ab) ?_;rintro _ _ rfl;rw[a7];refine Jq ?_;intros;refine⟨(i+1,zs.set i m'),⟨by dsimp only;omega,by dsimp only;simp;omega,?_,?_⟩,by dsimp only;omega,?_,?_⟩
 ·dsimp only;rw[de ab,aD a3,aW,aW,a2,←getElem!_of a3];simp[b0]
 ·dsimp only;rw[de ab];intro m hm;rcases List.mem_append.1 hm with q|q
  ·exact a1 m q
  ·rw[List.mem_singleton.1 q];exact a9
 ·dsimp only;rw[aV i];exact av
 ·dsimp only;rw[de ab];refine Ent.d7 ?_;refine Ent.trans (B:=allP mvP (zs.take i)::mvP m'::isl aM 5 ad ms::allP mvP ms::L) ae ?_;exact(Ent.d7 (Ent.f8 iP)).trans (Ent.g7 iP)
def yD{L:LH}(s:StV)(hl:s.moves.length≤64)(hp:∀m∈s.moves,m.m.parts.length≤1000000) :
  Tri ai 68 #[aN (aT s)] (stM s::stP s::L) (fun v L'=>∃s',v=aN (aT s')∧(s'.m=s.m∧stC s')∧L' = stO s'::stM s::stP s::L):=by
 obtain⟨i0,i1,i2,i3,i4,i5,ms,mad,mcap⟩:=s;dsimp only at hl hp;refine Tri.bd (args:=[aN (aT ⟨i0,i1,i2,i3,i4,i5,ms,mad,mcap⟩)]) ?_;refine Jq ?_;intros;refine GO.ent (Ent.at (A:=isl aM 5 mad ms) (Ent.d7 (Ent.at (A:=allP mvP ms) (Ent.refl _)))) ?_;refine GO.ca (yx mad mcap ms hl hp) ?_;rintro _ _⟨a3,c',a1,rfl,⟨a4,a2,a0⟩,rfl⟩;refine Jq ?_;intros;refine KX.d7 (by exact ResOk.cell rfl aK (ResOk.nil)) ?_ ⟨⟨i0,i1,i2,i3,i4,i5,a1,a3,c'⟩,rfl,⟨by simp only[StV.m,a4],a2,a0⟩,rfl⟩;refine Ent.trans (B:=osl aM 5 tMv a3 c' a1::allP mvP a1::isl aM 5 mad ms::allP mvP ms::L) ae ?_;exact Ent.m5
def yu{L:LH}(ad:OA)(c:Nat)(ms:List StV)(hl:ms.length≤100000)(hp:∀m∈ms,m.moves.length≤64∧∀u∈m.moves,u.m.parts.length≤1000000) :
  Tri ai 67 #[ah ad ms.length c,.func (.func 68) #[] #[]] (asl aT 7 be ad c ms::allP cC ms::L) (fun v L'=>∃a4 c' a0,v=ah a4 a0.length c'∧(a0.map (·.m)=ms.map (·.m)∧a0.length≤c'∧∀m∈a0,stC m)∧L' = osl aT 7 be a4 c' a0::bigO stO a0::asl aT 7 be ad c ms::allP cC ms::L):=by
 refine Tri.bd ?_;by_cases h0:ms.length=0
 ·have e:ms=[]:=aX h0;subst e;refine Jq ?_;intros;exact KX.d7 al ((Ent.l0 stO).trans (Ent.d8 aT 7 be)) ⟨none,0,[],rfl,⟨rfl,aB _,(fun m h=>by cases h)⟩,rfl⟩
 refine Jq ?_;intros;refine GO.ef (Ef.e9 aT st0 rfl rfl rfl ab ab ab ab) ag ?_;rintro _ _⟨bs,rfl,rfl⟩;rw[show(ms.length:Int).toNat=ms.length by omega];refine Jq ?_;intros
 refine G.loop (α:=Nat×List StV) (fun z=>z.1≤ms.length∧z.2.length=ms.length∧((z.2.take z.1).map (·.m)=(ms.take z.1).map (·.m)∧∀m∈z.2.take z.1,stC m)) (fun  z=>[(1,.func (.func 68) #[] #[]),(5,ah (some ⟨bs,0,none⟩) ms.length ms.length),(14,ah ad ms.length c),(15,ac (ms.length:Int)),(16,ac (z.1:Int))])
  (fun z=>osl aT 7 be (some ⟨bs,0,none⟩) ms.length z.2::bigO stO (z.2.take z.1)::asl aT 7 be ad c ms::allP cC ms::L) (fun z=>ms.length - z.1) (0,List.replicate ms.length st0) ⟨aw _,by simp,by simp,(fun m h=>by rw[bH] at h;cases h)⟩ av ?_ ?_
 ·dsimp only;rw[bH];refine(Ent.l0 stO).trans ?_;exact ae
 rintro⟨i,zs⟩ ⟨hi,a5,a2,a1⟩;dsimp only at hi a5 a2 a1 ⊢;by_cases a3:i<ms.length
 case neg =>
  have a9:i=ms.length:=ab;subst a9;rw[aF ab,aF ab] at a2;rw[aF ab] at a1;rw[aF (ab:zs.length≤ms.length)];refine Jq ?_;intros;refine KX.d7 al (Ent.refl _) ⟨some ⟨bs,0,none⟩,ms.length,zs,by rw[a5];rfl,⟨a2,ab,a1⟩,rfl⟩
 have a8:(i:Int).toNat=i:=ab;have a6:ms[i]!∈ms:=aI a3;have a7:=hp _ a6;refine Jq ?_;intros;rw[a8];refine GO.ent (Ent.at (A:=allP cC ms) ((Ent.e7 (f:=cC) (x:=ms[i]!) a6).trans Ent.andE)) ?_;refine GO.ef (Ef.d8 rfl rfl (yD ms[i]! a7.1 a7.2)) ag ?_;rintro _ _⟨m',rfl,⟨b1,b0⟩,rfl⟩;refine Jq ?_;intros;refine GO.efu (Ef.e8 (e:=m') rfl rfl aK aK (jM _) ab) ?_;rintro _ _ rfl;rw[a8];refine Jq ?_;intros;refine⟨(i+1,zs.set i m'),⟨by dsimp only;omega,by dsimp only;simp;omega,?_,?_⟩,by dsimp only;omega,?_,?_⟩
 ·dsimp only;rw[de ab,aD a3,aW,aW,a2,←getElem!_of a3];simp[b1]
 ·dsimp only;rw[de ab];intro m hm;rcases List.mem_append.1 hm with q|q
  ·exact a1 m q
  ·rw[List.mem_singleton.1 q];exact b0
 ·dsimp only;rw[aV i];exact av
 ·dsimp only;rw[de ab];refine Ent.d7 ?_;refine Ent.trans (B:=stO m'::bigO stO (zs.take i)::asl aT 7 be ad c ms::allP cC ms::L) ae ?_;exact Ent.l8
def nJ{L:LH}(b:Nat)(S:LedM)(hS:∀s∈S.steps,s.moves.length≤64∧∀u∈s.moves,u.parts.length≤1000000)(a5:S.steps.length≤100000) :
  Tri ai 25 #[ax b] (LedR b S::L) (fun v L'=>∃ad cap ss,v=ah ad ss.length cap∧(ss.map StV.m=S.steps∧∀s∈ss,stC s)∧L' = osl aT 7 be ad cap ss::bigO stO ss::LedR b S::L):=by
 refine Tri.bd ?_;refine G.e7 (f:=ledA b S) ?_;intro x;simp only[ledA,ledL,bJ,ao,an];refine G.e8 ?_;intro hF;have a4:x.steps.length=S.steps.length:=by rw[←hF.steps];simp
 have a3:∀m∈x.steps,m.moves.length≤64∧∀u∈m.moves,u.m.parts.length≤1000000:=fun m hm=>by
  have h1:=hS m.m (by rw[←hF.steps];exact alStd0List_mem_map_of_mem hm);exact⟨by have:=h1.1;simpa [StV.m] using this,fun u hu=>h1.2 u.m (alStd0List_mem_map_of_mem hu)⟩
 refine Jq ?_;intros;refine GO.ent (Ent.at (A:=asl aT 7 be x.sad x.scap x.steps) (Ent.d7 (Ent.at (A:=allP cC x.steps) (Ent.refl _)))) ?_;refine GO.ca (yu x.sad x.scap x.steps ab a3) ?_;rintro _ _⟨a0,c',fs,rfl,⟨a2,_,a1⟩,rfl⟩;refine Jq ?_;intros;refine KX.d7 al ?_ ⟨a0,c',fs,rfl,⟨a2.trans hF.steps,a1⟩,rfl⟩;refine Ent.trans ?_ (Ent.d7 (Ent.d7 (jL x hF)));simp only[ledL];exact ae
