/- Lemmas. -/
import Derived.Test.YtlgpgjdggilkgaaGreatDoorEcas
set_option linter.all false
namespace Go.Proofs.YtlgpgjdggilkgaaGreatDoor
section
open Go.V
def pX:∀{r out:LL},∀z∈r.foldl bN out,∃y∈out++r,z.1=y.1
 | [],out,z,hz=>⟨z,bM _ hz,rfl⟩
 | x::r,out,z,hz=>by
  obtain⟨y,hy,e⟩:=pX (r:=r) (out:=bN out x) z hz;rcases List.mem_append.1 hy with hy|hy
  ·have h:∀w∈bN out x,∃v∈out++x::r,w.1=v.1:=by
    intro w hw;unfold bN at hw;split at hw
    ·exact⟨w,bM _ hw,rfl⟩
    ·split at hw
     ·rename_i hc;rcases dj hw with hw|rfl
      ·exact⟨w,bM _ hw,rfl⟩
      ·exact⟨_,bM _ (aV (ab:out.length - 1<out.length)),rfl⟩
     ·rcases List.mem_append.1 hw with hw|hw
      ·exact⟨w,bM _ hw,rfl⟩
      ·exact⟨w,bK _ (by rw[List.mem_singleton.1 hw];exact av),rfl⟩
   obtain⟨v,hv,e2⟩:=h y hy;exact⟨v,hv,e.trans e2⟩
  ·exact⟨y,bK _ (au _ hy),e⟩
def nS:∀(r out:LL),r.foldl bN out=(r.filter (fun x=>decide (x.2.2≠0))).foldl bN out
 | [],_=>rfl
 | x::r,out=>by
  by_cases h:x.2.2=0
  ·rw[dD (by simpa using h)];have e:bN out x=out:=if_pos h;show r.foldl bN (bN out x)=_;rw[e];exact nS r out
  ·rw[cB (by simpa using h)];exact nS r (bN out x)
def kN:∀{r out:LL},Apart (out++r)→(∀z∈out++r,1≤z.2.2)→Apart (r.foldl bN out)
 | [],out,h,_=>by rwa [aH] at h
 | x::r,out,h,hn=>by
  have hx:=hn x (bK _ av);have a9:out++x::r=(out++[x])++r:=by rw[aB];rfl
  by_cases hc:out.length≠0∧lI x out[out.length - 1]!
  case neg =>
   have e:bN out x=out++[x]:=by unfold bN;rw[if_neg ab,if_neg hc]
   show Apart (r.foldl bN (bN out x));rw[e];rw[a9] at h hn;exact kN h hn
  obtain⟨hl,hk⟩:=hc;have e:bN out x=out.set (out.length - 1) (out[out.length - 1]!.1,out[out.length - 1]!.2.1,out[out.length - 1]!.2.2+x.2.2):=by unfold bN;rw[if_neg ab,if_pos ⟨hl,hk⟩]
  rcases List.eq_nil_or_concat out with rfl|⟨a0,b,rfl⟩
  ·exact absurd rfl hl
  rw[List.concat_eq_append] at *
  have eb:(a0++[b])[(a0++[b]).length - 1]! = b:=by
   rw[getElem!_of cc];simp
  rw[eb] at e hk
  have es:(a0++[b]).set ((a0++[b]).length - 1) (b.1,b.2.1,b.2.2+x.2.2)=a0++[(b.1,b.2.1,b.2.2+x.2.2)]:=by
   rw[aj,aI,Nat.add_sub_cancel,eN _ _ (aq _)];simp
  rw[es] at e;show Apart (r.foldl bN (bN (a0++[b]) x));rw[e];have b0:=lcont_iff.1 hk;have hb:=hn b (bM _ (bK _ (cT _)));have e3:(a0++[b])++x::r=a0++(b::x::r):=by rw[aB];rfl
  rw[e3] at h hn;obtain⟨a1,a2,a3⟩:=List.pairwise_append.1 h;obtain⟨a4,a5⟩:=List.pairwise_cons.1 a2;obtain⟨a6,a7⟩:=List.pairwise_cons.1 a5;refine kN ?_ ?_
  ·rw[show(a0++[(b.1,b.2.1,b.2.2+x.2.2)])++r=a0++((b.1,b.2.1,b.2.2+x.2.2)::r) by rw[aB];rfl];refine List.pairwise_append.2 ⟨a1,List.pairwise_cons.2 ⟨fun z hz=>?_,a7⟩,fun z hz w hw=>?_⟩
   ·have g1:=a4 z (au _ hz);have g2:=a6 z hz;have g3:=hn z (bK _ (au _ (au _ hz)));unfold apart at g1 g2 ⊢;dsimp only;omega
   ·rcases List.mem_cons.1 hw with rfl|hw
    ·have g1:=a3 z hz b av;have g2:=a3 z hz x (au _ av);have g3:=hn z (bM _ hz);unfold apart at g1 g2 ⊢;dsimp only;omega
    ·exact a3 z hz w (au _ (au _ hw))
  ·intro z hz;rcases List.mem_append.1 hz with hz|hz
   ·rcases List.mem_append.1 hz with hz|hz
    ·exact hn z (bM _ hz)
    ·rw[List.mem_singleton.1 hz];dsimp only;omega
   ·exact hn z (bK _ (au _ (au _ hz)))
def ph{α β γ:Type}(f:γ→β→γ)(g:α→List β):∀(s:List α) (out:γ),(s.flatMap g).foldl f out=s.foldl (fun o y=>(g y).foldl f o) out
 | [],_=>rfl
 | y::s,out=>by
  rw[aO,cF];exact ph f g s _
def lC:∀(set l:LL),set.foldl subL l=l.flatMap (fun y=>set.foldl subL [y])
 | [],l=>by
  show l=l.flatMap (fun y=>[y]);induction l with
  | nil=>rfl
  | cons y l ih=>rw[aO,←ih];rfl
 | x::set,l=>by
  have e1:∀l,(x::set).foldl subL l=(subL l x).flatMap (fun y=>set.foldl subL [y]):=fun l=>lC set (subL l x);rw[e1];induction l with
  | nil=>rfl
  | cons y l ih =>
   have e2:subL (y::l) x=subL [y] x++subL l x:=by
    unfold subL;rw[aO,aO];simp
   rw[e2,cl,ih,aO];congr 1;exact(e1 [y]).symm
def wv(s set:LL):gX s set=(set.foldl subL s).foldl bN []:=by
 rw[lC,ph];rfl
def FZ:∀{set l:LL},(∀x∈set,LotOk x)→(∀y∈l,LotOk y)→Apart l→(∀y∈set.foldl subL l,LotOk y∧∃w∈l,y.1=w.1)∧Apart (set.foldl subL l)∧(set.foldl subL l).length≤l.length+set.length
 | [],l,_,hl,ha=>⟨fun y hy=>⟨hl y hy,y,hy,rfl⟩,ha,aq _⟩
 | x::set,l,hs,hl,ha=>by
  have hx:=hs x av;obtain⟨h1,h2⟩:=mo hx hl ha;obtain⟨i1,i2,i3⟩:=FZ (set:=set) (l:=subL l x) (fun z hz=>hs z (au _ hz)) (qO hx hl) h1;refine⟨fun y hy=>?_,i2,?_⟩
  ·obtain⟨g1,w,hw,e⟩:=i1 y hy;obtain⟨v,hv,_,e2,_⟩:=oc hx hl hw;exact⟨g1,v,hv,e.trans e2⟩
  ·rw[aM];show(set.foldl subL (subL l x)).length≤_;omega
structure StkG (k:Nat) (id:Int) (l:LL):Prop where
 len:l.length≤k
 ok:∀x∈l,LotOk x∧x.1<id
 apt:Apart l
def StkG.lots{k:Nat}{id:Int}{l:LL}(h:StkG k id l):∀x∈l,LotOk x:=fun x hx=>(h.ok x hx).1
def StkG.mono{k k' : Nat}{id a0 : Int}{l:LL}(h:StkG k id l)(hk:k≤k')(hi:id≤a0):StkG k' a0 l:=⟨aP h.len hk,fun x hx=>⟨(h.ok x hx).1,by have:=(h.ok x hx).2;omega⟩,h.apt⟩
def Be{k:Nat}{id:Int}{l ps:LL}(h:StkG k id l)(hp:∀x∈ps,LotOk x):StkG (k+ps.length) id (gX l ps):=by
 obtain⟨c1,c2,c3⟩:=FZ hp h.lots h.apt;have hl:=h.len;rw[wv];refine⟨?_,fun x hx=>?_,kN c2 (fun z hz=>(c1 z hz).1.2.2.2.1)⟩
 ·have:=iV (ps.foldl subL l) []
  simp only[bz] at this;omega
 ·obtain⟨y,hy,e⟩:=pX (r:=ps.foldl subL l) (out:=[]) x hx;rw[ak] at hy;obtain⟨_,w,hw,e2⟩:=c1 y hy;have:=(h.ok w hw).2
  refine⟨ly cc (fun z hz=>(c1 z hz).1.w) x hx,?_⟩;rw[e,e2];exact this
def IJ{mixed:Bool}{k:Nat}{id n:Int}{l:LL}(h:StkG k id l)(hk:l.length≤4096)(h0:0≤n)(h1:n≤lsum l):StkG k id (kZ mixed l n):=by
 have hb:=wz mixed l n h.lots h0 h1;have a1:=(FP h.lots hb).2;refine⟨aP (oq _ _ _).2 h.len,fun x hx=>⟨a1 x hx,?_⟩,?_⟩
 ·obtain⟨y,hy,e⟩:=pX (r:=(List.range l.length).map (pcR l (tkC mixed l n))) (out:=[]) x hx;rw[ak] at hy;obtain⟨j,hj,rfl⟩:=List.mem_map.1 hy;have hj:=List.mem_range.1 hj;have:=(h.ok _ (aV hj)).2
  rw[e];exact this
 ·show Apart (((List.range l.length).map (pcR l (tkC mixed l n))).foldl bN []);rw[nS]
  have a2:Apart ((List.range l.length).map (pcR l (tkC mixed l n))):=by
   unfold Apart;rw[List.pairwise_map];refine List.Pairwise.imp_of_mem ?_ List.pairwise_lt_range;intro i j hi hj a0;have hi:=List.mem_range.1 hi;have hj:=List.mem_range.1 hj;have ha:=List.pairwise_iff_getElem.1 h.apt i j hi hj a0;rw[←getElem!_of hi,←getElem!_of hj] at ha;have b1:=hb i hi;have b2:=hb j hj;unfold apart at ha ⊢;simp only[pcR,pc1,pc2];omega
  refine kN ?_ ?_
  ·rw[ak];exact a2.filter _
  ·intro z hz;rw[ak] at hz;obtain⟨g1,g2⟩:=List.mem_filter.1 hz;obtain⟨j,hj,rfl⟩:=List.mem_map.1 g1;have hj:=List.mem_range.1 hj;have b1:=hb j hj;have g3:(pcR l (tkC mixed l n) j).2.2≠0:=by simpa using g2
   simp only[pcR,pc1,pc2] at g3 ⊢;omega
def Kc{k:Nat}{id n:Int}{l:LL}(h:StkG k id l)(a0:0≤id)(hn:1≤n∧n≤1099511627776):StkG (k+1) (id+1) (bN l (id,0,n)):=by
 rw[DC h.lots hn.1];have hl:=h.len;refine⟨by rw[aj,aI];omega,fun x hx=>?_,List.pairwise_append.2 ⟨h.apt,bB _ _,fun y hy w hw=>?_⟩⟩
 ·rcases List.mem_append.1 hx with hx|hx
  ·have:=h.ok x hx
   exact⟨this.1,ab⟩
  ·rw[List.mem_singleton.1 hx];refine⟨⟨a0,bq _,by dsimp only;omega,hn.1,by dsimp only;omega⟩,by dsimp only;omega⟩
 ·rw[List.mem_singleton.1 hw];have:=(h.ok y hy).2
  unfold apart;dsimp only;omega
def gPts(mix:Int→Bool)(s:StM)(W:Wk)(m:MvM):LL:=if m.frm=0 then(if s.kind=5∨s.kind=9 then m.parts else[]) else if m.parts=[] then mP (mix m.item) (W.stk m.frm m.item) m.n else m.parts
def DP(mix:Int→Bool)(W:Wk)(m:MvM):LL:=if m.parts=[] then kZ (mix m.item) (W.stk m.frm m.item) m.n else gX (W.stk m.frm m.item) m.parts
def gStk(mix:Int→Bool)(W:Wk)(m:MvM):Int→Int→LL:=if m.frm=0 then W.stk else upd2 W.stk m.frm m.item (DP mix W m)
def gErr(sh:Int)(fl:List FlM)(s:StM)(W:Wk)(m:MvM):Int :=
 if m.frm=0 then(if s.kind=5 then arrG sh fl m.parts else if s.kind=9 then revG fl m.item m.parts else 0)
 else if m.parts=[] then(if lsum (W.stk m.frm m.item)<m.n then 10 else 0) else if ic m.parts (W.stk m.frm m.item) then 0 else 10
def fE(sh:Int)(nf:Nat)(mix:Int→Bool)(s:StM)(W:Wk)(m:MvM):FlM:=⟨eU sh nf W,s.id,s.kind,s.tick,s.actor,m.frm,m.to,m.item,m.n,gPts mix s W m,jr s W m⟩
def db(sh:Int)(fl:List FlM)(mix:Int→Bool)(s:StM)(W:Wk)(m:MvM):Int×Wk :=
 if gErr sh (fl++W.flows) s W m≠0 then(gErr sh (fl++W.flows) s W m,W)
 else if ew W m>1099511627776 then(4,W)
 else if m.to=0 then(0,⟨gStk mix W m,upd W.tot m.item (ew W m),W.flows++[fE sh fl.length mix s W m],W.sunk++[eU sh fl.length W]⟩)
 else if 4096≤(gStk mix W m m.to m.item).length then(4,W)
 else(0,⟨upd2 (gStk mix W m) m.to m.item (bN (gStk mix W m m.to m.item) (eU sh fl.length W,0,m.n)),upd W.tot m.item (ew W m),W.flows++[fE sh fl.length mix s W m],W.sunk⟩)
def FlG(fl:List FlM):Prop:=∀f∈fl,(∀x∈f.parts,LotOk x)∧f.parts.length≤2047
structure WkG (sh:Int) (fl:List FlM) (k:Nat) (W:Wk):Prop where
 stk:∀a i,StkG k (eU sh fl.length W) (W.stk a i)
 tot:∀i,-(((fl.length:Int)+W.flows.length)*1099511627776)≤W.tot i∧W.tot i≤1099511627776
 sunk:W.sunk.length≤W.flows.length
 flows:FlG W.flows
structure MvG (m:MvM):Prop where
 n:1≤m.n∧m.n≤1099511627776
 ne:m.frm≠m.to
 parts:m.parts=[]∨kR m.parts m.n
def MvG.lots{m:MvM}(h:MvG m):∀x∈m.parts,LotOk x:=fun x hx=>by
 rcases h.parts with q|q
 ·rw[q] at hx;cases hx
 ·exact q.1.1 x hx
def FA{sh:Int}{fl:List FlM}{mix:Int→Bool}{s:StM}{W:Wk}{k:Nat}{m:MvM}(h:WkG sh fl k W)(hm:MvG m)(hk:k≤2000)(he:gErr sh (fl++W.flows) s W m=0)(a i:Int):StkG (k+m.parts.length) (eU sh fl.length W) (gStk mix W m a i):=by
 unfold gStk;unfold gErr at he;by_cases h0:m.frm=0
 ·rw[if_pos h0];exact(h.stk a i).mono (dW _ _) (bq _)
 rw[if_neg h0] at he ⊢;unfold upd2;by_cases ha:a=m.frm∧i=m.item
 case neg =>
  rw[if_neg ha];exact(h.stk a i).mono (dW _ _) (bq _)
 rw[if_pos ha];have hs:=h.stk m.frm m.item;have hl:=hs.len;have hn:=hm.n;unfold DP;by_cases hp:m.parts=[]
 ·rw[if_pos hp] at he ⊢;by_cases hq:lsum (W.stk m.frm m.item)<m.n
  ·rw[if_pos hq] at he;exact absurd he ae
  ·exact(IJ hs ab ab ab).mono (dW _ _) (bq _)
 ·rw[if_neg hp];exact Be hs hm.lots
def FB{sh:Int}{fl:List FlM}{mix:Int→Bool}{s:StM}{W:Wk}{k:Nat}{m:MvM}(h:WkG sh fl k W)(hm:MvG m)(hk:k+m.parts.length≤2000)(he:gErr sh (fl++W.flows) s W m=0):(∀x∈gPts mix s W m,LotOk x)∧(gPts mix s W m).length≤2047:=by
 have hs:=h.stk m.frm m.item;have hl:=hs.len;have hn:=hm.n;unfold gErr at he;unfold gPts;by_cases h0:m.frm=0
 ·rw[if_pos h0];split
  ·exact⟨hm.lots,ab⟩
  ·exact⟨(fun x hx=>by cases hx),aw _⟩
 rw[if_neg h0] at he ⊢;by_cases hp:m.parts=[]
 ·rw[if_pos hp] at he ⊢;by_cases hq:lsum (W.stk m.frm m.item)<m.n
  ·rw[if_pos hq] at he;exact absurd he ae
  ·exact⟨(FP hs.lots (wz _ _ _ hs.lots ab ab)).1,aP (oq _ _ _).1 ab⟩
 ·rw[if_neg hp];exact⟨hm.lots,ab⟩
def sx{sh:Int}{fl:List FlM}{mix:Int→Bool}{s:StM}{W:Wk}{k:Nat}{m:MvM}(a5:0≤sh)(h:WkG sh fl k W)(hm:MvG m)(hk:k+m.parts.length≤2000)(he:(db sh fl mix s W m).1=0):WkG sh fl (k+m.parts.length+1) (db sh fl mix s W m).2∧(db sh fl mix s W m).2.flows=W.flows++[fE sh fl.length mix s W m]:=by
 unfold db at he ⊢;by_cases h1:gErr sh (fl++W.flows) s W m≠0
 ·rw[if_pos h1] at he;exact absurd he h1
 rw[if_neg h1] at he ⊢;have a2 : gErr sh (fl++W.flows) s W m=0:=Classical.not_not.1 h1;by_cases h2:ew W m>1099511627776
 ·rw[if_pos h2] at he;exact absurd (show(4:Int)=0 from he) ae
 rw[if_neg h2] at he ⊢;have hS:=fun a i=>FA (mix:=mix) h hm ab a2 a i;have hP:=FB (mix:=mix) h hm hk a2;have hn:=hm.n
 have a3:FlG (W.flows++[fE sh fl.length mix s W m]):=fun f hf=>by
  rcases List.mem_append.1 hf with hf|hf
  ·exact h.flows f hf
  ·rw[List.mem_singleton.1 hf];exact hP
 have a4:∀{W2:Wk},W2.flows=W.flows++[fE sh fl.length mix s W m]→eU sh fl.length W2=eU sh fl.length W+1:=fun {W2} e=>by
  unfold eU;rw[e,aj,aI];omega
 have a1:0≤eU sh fl.length W:=by unfold eU;omega
 have a0:∀i,-(((fl.length:Int)+(W.flows++[fE sh fl.length mix s W m]).length)*1099511627776)≤upd W.tot m.item (ew W m) i∧upd W.tot m.item (ew W m) i≤1099511627776:=fun i=>by
  rw[aj,aI];unfold upd;have t1:=h.tot i;have t2:=h.tot m.item;split
  ·refine⟨?_,ab⟩;unfold ew;split<;>split<;>omega
  ·omega
 by_cases h3:m.to=0
 ·rw[if_pos h3];refine⟨⟨fun a i=>?_,a0,?_,a3⟩,rfl⟩
  ·rw[a4 rfl];exact(hS a i).mono ab ab
  ·have:=h.sunk
   simp only[aj,aI];omega
 rw[if_neg h3] at he ⊢;by_cases h4:4096≤(gStk mix W m m.to m.item).length
 ·rw[if_pos h4] at he;exact absurd (show(4:Int)=0 from he) ae
 rw[if_neg h4];refine⟨⟨fun a i=>?_,a0,?_,a3⟩,rfl⟩
 ·rw[a4 rfl];dsimp only;unfold upd2;split
  ·exact Kc (hS m.to m.item) a1 hn
  ·exact(hS a i).mono ab ab
 ·have:=h.sunk
  simp only[aj,aI];omega
end
section
open Go.V
attribute [local irreducible] G GO GP GPW GPK Ev Ef EfR Ent CB GB V.Enters
def mvK:List MvM→Nat
 | []=>0
 | m::ms=>(m.parts.length+1)+mvK ms
def mu:∀(a b:List MvM),mvK (a++b)=mvK a+mvK b
 | [],b=>by show mvK b=0+mvK b;omega
 | m::a,b=>by
  have:=mu a b
  show(m.parts.length+1)+mvK (a++b)=(m.parts.length+1)+mvK a+mvK b;omega
def GX{ms:List MvM}{i:Nat}(h:i<ms.length):mvK (ms.take (i+1))=mvK (ms.take i)+(ms[i]!.parts.length+1):=by
 rw[az h,mu,getElem!_of h];rfl
def JD(ms:List MvM)(i:Nat):mvK (ms.take i)≤mvK ms:=by
 have h:=mu (ms.take i) (ms.drop i);rw[cK] at h;omega
def dP(sh:Int)(fl:List FlM)(mix:Int→Bool)(s:StM)(W:Wk):List MvM→Int×Wk
 | []=>(0,W)
 | m::ms=>if(db sh fl mix s W m).1=0 then dP sh fl mix s (db sh fl mix s W m).2 ms else((db sh fl mix s W m).1,W)
noncomputable def gTry(S:LedM)(s:StM):Int×Wk :=
 if 65536≤S.steps.length then(4,wk0 S)
 else if ¬gY S.cat S.now s then(1,wk0 S)
 else dP S.shard S.flows (fJ S.cat) (s.at (cV S)) (wk0 S) s.moves
noncomputable def fV(S:LedM)(s:StM):LedM:={ S with stk:=(gTry S s).2.stk,tot:=(gTry S s).2.tot,steps:=S.steps++[s.at (cV S)],flows:=S.flows++(gTry S s).2.flows }
noncomputable def ce(S:LedM)(s:StM):LedM:=if(gTry S s).1=0 then fV S s else S
noncomputable def gRes(S:LedM)(s:StM):Int:=if(gTry S s).1=0 then cV S else 0
structure LedG (k:Nat) (S:LedM):Prop where
 shard:0≤S.shard∧S.shard<12
 steps:S.steps.length≤65536
 flows:S.flows.length≤64*S.steps.length
 stk:∀a i,StkG k (S.shard*4294967296+S.flows.length) (S.stk a i)
 tot:∀i,-((S.flows.length:Int)*1099511627776)≤S.tot i∧S.tot i≤1099511627776
 fl:FlG S.flows
def HE{k:Nat}{S:LedM}(h:LedG k S):WkG S.shard S.flows (k+mvK ([]:List MvM)) (wk0 S):=by
 have e:eU S.shard S.flows.length (wk0 S)=S.shard*4294967296+S.flows.length:=by
  show S.shard*4294967296+(S.flows.length:Int)+((0:Nat):Int)=_;omega
 refine⟨fun a i=>by rw[e];exact h.stk a i,fun i=>?_,aq _,fun f hf=>by cases hf⟩;have:=h.tot i
 show -(((S.flows.length:Int)+((0:Nat):Int))*1099511627776)≤S.tot i∧S.tot i≤1099511627776;omega
def qw{sh:Int}{fl:List FlM}{mix:Int→Bool}{s:StM}(a0:0≤sh):∀{ms:List MvM} {W:Wk} {k:Nat},WkG sh fl k W→(∀m∈ms,MvG m)→k+mvK ms≤2000→(dP sh fl mix s W ms).1=0→WkG sh fl (k+mvK ms) (dP sh fl mix s W ms).2∧(dP sh fl mix s W ms).2.flows.length=W.flows.length+ms.length
 | [],_,_,h,_,_,_=>⟨h,rfl⟩
 | m::ms,W,k,h,hm,hk,he=>by
  have e:dP sh fl mix s W (m::ms)=if(db sh fl mix s W m).1=0 then dP sh fl mix s (db sh fl mix s W m).2 ms else((db sh fl mix s W m).1,W):=rfl;have ek:mvK (m::ms)=(m.parts.length+1)+mvK ms:=rfl;rw[e] at he ⊢;by_cases h1:(db sh fl mix s W m).1=0
  ·rw[if_pos h1] at he ⊢;obtain⟨g1,g2⟩:=sx a0 h (hm m av) ab h1;obtain⟨i1,i2⟩:=qw a0 (ms:=ms) g1 (fun x hx=>hm x (au _ hx)) ab he;refine⟨by rw[ek,←dS,←dS];exact i1,?_⟩;rw[i2,g2,aj,aI,aM];omega
  ·rw[if_neg h1] at he;exact absurd he h1
def vu{S:LedM}{s:StM}(hp:gY S.cat S.now s)(h0:0≤S.now):0≤(fV S s).now:=by
 unfold LedM.now fV;simp only[List.getLast?_append,List.getLast?_singleton];have:=hp.2.2.1
 show 0≤s.tick;omega
def GM{c:CatM}{now:Int}{s:StM}(h:gY c now s):∀m∈s.moves,MvG m:=fun m hm=>by
 have a0:=h.2.2.2.2.1 m hm;refine⟨a0.1.2.1,a0.1.2.2.1,?_⟩;have h3:=a0.2;split at h3
 ·exact .inr h3
 ·exact .inl (aZ h3)
def IW{k:Nat}{S:LedM}{s:StM}(h:LedG k S)(hk:k+mvK s.moves≤2000):LedG (k+mvK s.moves) (ce S s):=by
 unfold ce;by_cases he:(gTry S s).1=0
 case neg =>
  rw[if_neg he];exact⟨h.shard,h.steps,h.flows,fun a i=>(h.stk a i).mono ab (bq _),h.tot,h.fl⟩
 rw[if_pos he];have a3:=h.steps;have a2:=h.flows;by_cases h1:65536≤S.steps.length
 ·have e:gTry S s=(4,wk0 S):=by unfold gTry;rw[if_pos h1]
  rw[e] at he;exact absurd (show(4:Int)=0 from he) ae
 by_cases h2:gY S.cat S.now s
 case neg =>
  have e:gTry S s=(1,wk0 S):=by unfold gTry;rw[if_neg h1,if_pos h2]
  rw[e] at he;exact absurd (show(1:Int)=0 from he) ae
 have e:gTry S s=dP S.shard S.flows (fJ S.cat) (s.at (cV S)) (wk0 S) s.moves:=by unfold gTry;rw[if_neg h1,if_neg (fun q=>q h2)]
 have a1:=h2.2.2.2.1;rw[e] at he;obtain⟨g1,g2⟩:=qw h.shard.1 (HE h) (GM h2) (by show k+0+_≤_;omega) he;unfold fV;rw[e];have e0:(wk0 S).flows.length=0:=rfl;rw[e0,du] at g2
 have a0:eU S.shard S.flows.length (dP S.shard S.flows (fJ S.cat) (s.at (cV S)) (wk0 S) s.moves).2=S.shard*4294967296+((S.flows++(dP S.shard S.flows (fJ S.cat) (s.at (cV S)) (wk0 S) s.moves).2.flows).length:Int):=by
  unfold eU;rw[aj];omega
 refine⟨h.shard,?_,?_,fun a i=>?_,fun i=>?_,fun f hf=>?_⟩
 ·show(S.steps++[_]).length≤_;rw[aj,aI];omega
 ·show(S.flows++_).length≤64*(S.steps++[_]).length;rw[aj,aj,aI,g2];omega
 ·dsimp only;rw[←a0];exact g1.stk a i
 ·have:=g1.tot i
  dsimp only;rw[aj];omega
 ·rcases List.mem_append.1 (show f∈S.flows++_ from hf) with q|q
  ·exact h.fl f q
  ·exact g1.flows f q
structure StInG (s:StV):Prop where
 len:s.moves.length≤1000000
 rule:I64 s.rule
 parts:∀m∈s.moves,m.m.parts.length≤9223372036854775807
 cap:∀m∈s.moves,m.m.parts.length≤m.pcap
 bd:∀m∈s.moves,∀p∈m.m.parts,p.1≤9223372036854775807
def mD{L:LH}(n k:Int)(hn:I64 n)(h2:1≤k)(h3:k≤9223372036854775807) :
  Tri Tryz.prog 10 #[ac n,ac k] L (fun v L'=>∃p,v=ac p∧(0≤p∧p<k)∧L' = L):=by
 obtain⟨h0,h1⟩:=hn;refine Tri.bd ?_;by_cases h:n<0
 ·have g1:=ed (-(n+1)) (ab:k≠0);have g2:=dC (-(n+1)) (ab:0<k);refine Ks ?_;intros;exact KX.en ⟨_,rfl,⟨g1,g2⟩,rfl⟩
 ·have g1:=ed n (ab:k≠0);have g2:=dC n (ab:0<k);refine Ks ?_;intros;exact KX.en ⟨_,rfl,⟨g1,g2⟩,rfl⟩
def ku{L:LH}(ad:OA)(n c:Nat)(xs:List Int)[Rds L ad Int (encZ .i64) 1 xs](hn:n=xs.length)(hx:∀x∈xs,I64 x)(i k:Int)(hk:1≤k∧k≤9223372036854775807) :
  Tri Tryz.prog 67 #[ag ad n c,ac i,ac k] L (fun v L'=>∃p,v=ac p∧(0≤p∧p<k)∧L' = L):=by
 subst hn;refine Tri.bd ?_;by_cases h0:0≤i
 case neg =>
  refine Ks ?_;intros;exact KX.a8 aA (Ent.refl _) ⟨0,rfl,ab,rfl⟩
 by_cases a0:i<xs.length
 case neg =>
  refine Ks ?_;intros;exact KX.a8 aA (Ent.refl _) ⟨0,rfl,ab,rfl⟩
 have hin:i.toNat<xs.length:=ab;refine Ks ?_;intros;refine GO.ca (mD xs[i.toNat]! k (hx _ (aV hin)) hk.1 hk.2) ?_;rintro _ _⟨p,rfl,hp,rfl⟩;refine Ks ?_;intros;exact KX.en ⟨_,rfl,hp,rfl⟩
end
section
open Go.V
def Bh{x y:Lot}(h:y.1≠x.1∨x.2.1+x.2.2≤y.2.1∨y.2.1+y.2.2≤x.2.1):subS x y=[y]:=if_pos h
def rN{x y:Lot}(h:¬(y.1≠x.1∨x.2.1+x.2.2≤y.2.1∨y.2.1+y.2.2≤x.2.1)):subS x y=(if y.2.1<x.2.1 then[(x.1,y.2.1,x.2.1 - y.2.1)] else[])++(if x.2.1+x.2.2<y.2.1+y.2.2 then[(x.1,x.2.1+x.2.2,y.2.1+y.2.2 - x.2.1 - x.2.2)] else[]):=if_neg h
def yV{α β:Type}(a:α)(g:α→List β):[a].flatMap g=g a:=by simp
end
section
open Go.V
attribute [local irreducible] G GO GP GPW GPK Ev Ef EfR Ent CB GB V.Enters
abbrev Hd:=Int×Int×Int
def hdC(x y:Hd):Int:=orI (cmpI x.1 y.1) (cmpI x.2.1 y.2.1)
def klt(x y:Hd):Prop:=x.1<y.1∨(x.1=y.1∧x.2.1<y.2.1)
def tL(x y:Hd):hdC x y<0↔klt x y:=by
 unfold hdC orI cmpI klt;(repeat' split)<;>omega
def IS:Go.Sort.SWO (ltOf hdC) where
 irrefl x:=by simp only[ltOf,decide_eq_false_iff_not];rw[tL];unfold klt;omega
 trans x y z h1 h2:=by simp only[ltOf,decide_eq_true_eq] at *;rw[tL] at *;unfold klt at *;omega
 ntrans x y z h1 h2:=by simp only[ltOf,decide_eq_false_iff_not] at *;rw[tL] at *;unfold klt at *;omega
structure HoldL (f:Int→Int→Int) (hs:List Hd):Prop where
 srt:hs.Pairwise klt
 mem:∀h,h∈hs↔h.2.2=f h.1 h.2.1∧h.2.2≠0
end
section
open Go.V
def ofF(ys:LL)(f:Int):LL:=ys.filter (fun p=>decide (p.1=f))
def Ja(a b:LL):∀ps:LL,ps.foldl subL (a++b)=ps.foldl subL a++ps.foldl subL b:=fun ps=>by
 rw[lC ps (a++b),lC ps a,lC ps b,cl]
def qD:∀{ps l:LL},(∀p∈ps,∀z∈l,apart z p)→ps.foldl subL l=l
 | [],_,_=>rfl
 | p::ps,l,h=>by
  show ps.foldl subL (subL l p)=l;rw[pN (h p av)];exact qD (fun q hq=>h q (au _ hq))
end
section
open Go.V
attribute [local irreducible] G GO GP GPW GPK Ev Ef EfR Ent CB GB V.Enters
def ovP(x y:Lot):Prop:=x.2.1<y.2.1+y.2.2∧y.2.1<x.2.1+x.2.2
instance (x y:Lot):Decidable (ovP x y):=by unfold ovP;infer_instance
def iT(l:LL)(n:Int):Prop:=eQ l∧Apart l∧lsum l=n
def partsA_iff{l:LL}{n:Int}:iT l n↔kR l n:=by
 constructor
 ·rintro⟨h1,h2,h3⟩;exact⟨h1,h3,((oE h1.1).2 h2).trans h3⟩
 ·rintro⟨h1,h2,h3⟩;exact⟨h1,(oE h1.1).1 (h3.trans h2.symm),h2⟩
def Eg{x y:Lot}(h:apart x y):apart y x:=by unfold apart at *;omega
def Apart.perm{l m:LL}(h:Apart l)(p:m.Perm l):Apart m:=(p.pairwise_iff (fun {a b} q=>Eg q)).2 h
end
section
open Go.V
def Jh{a b:LL}(p:a.Perm b)(t:Lot):OV a t=OV b t:=by
 induction p with
 | nil=>rfl
 | cons x p ih=>show ov x t+OV _ t=ov x t+OV _ t;rw[ih]
 | swap x y l=>show ov y t+(ov x t+OV l t)=ov x t+(ov y t+OV l t);omega
 | trans p1 p2 ih1 ih2=>exact ih1.trans ih2
def Fg{a b:LL}(p:a.Perm b):lsum a=lsum b:=by
 induction p with
 | nil=>rfl
 | cons x p ih=>rw[gr,gr,ih]
 | swap x y l=>rw[gr,gr,gr,gr];omega
 | trans p1 p2 ih1 ih2=>exact ih1.trans ih2
def ofF_mem{ys:LL}{f:Int}{p:Lot}:p∈ofF ys f↔p∈ys∧p.1=f:=by
 unfold ofF;rw[List.mem_filter];simp
def oy{ps own:LL}(h1:eQ ps)(ha:Apart ps)(h2:eQ own)(ho:Apart own):ic ps own↔lsum ps - OO ps own=0:=by
 have hs:=qS h1.1;have e1:lsum (jI ps own)=lsum (setL ps) - OO (setL ps) own:=uV hs.2 h2.1 ho;have hd:=(oE h1.1).2 ha;obtain⟨_,_,g3,_⟩:=mR h1.1 ps.length (aq _);rw[cC] at g3;have e3:OO (setL ps) own=OO ps own:=HU (fun t ht=>(g3 hd).2 t (h2.1 t ht));rw[hd,e3] at e1;have a0:=(qe h1.1 h2.1).1;constructor
 ·rintro⟨_,_,h3⟩;rw[h3,iM] at e1;exact e1.symm
 ·intro h;refine⟨h1,h2,?_⟩;rw[h] at e1;cases hm:jI ps own with
  | nil=>rfl
  | cons x l =>
   rw[hm] at e1 a0;have:=ky a0 (Nat.zero_lt_succ l.length)
   omega
end
end Go.Proofs.YtlgpgjdggilkgaaGreatDoor
namespace Go.V
def Ent.j7{α:Type}{f:α→HP}{l l' : List α}(h:l.Perm l'){L:LH}:Ent (bigO f l::L) (bigO f l'::L):=fun θ R w s=>by
 have s1:=Sat.ofStars (A:=l.map f) s;have s2:Sat θ (l'.map f++(L++R)) w:=s1.perm ((h.map f).append_right _);exact Sat.a8 (A:=l'.map f) s2
end Go.V
namespace Go.Proofs.YtlgpgjdggilkgaaGreatDoor
section
open Go.V
attribute [local irreducible] G GO GP GPW GPK Ev Ef EfR Ent CB GB V.Enters
section
variable {κ α:Type}[DecidableEq κ]
def pg:∀{m:List (κ×α)} {k:κ},k∉m.map (·.1)→gera m k=m
 | [],_,_=>rfl
 | p::m,k,h=>by
  simp only[aF,dJ,not_or] at h;have e:(p.1 == k)=false:=by rw[beq_eq_false_iff_ne];exact fun x=>h.1 x.symm
  have ih:=pg (m:=m) (k:=k) h.2;unfold gera at ih ⊢;rw[cB (by rw[e];rfl),ih]
def jL:∀{m:List (κ×α)} {k:κ},glk m k=none→k∉m.map (·.1)
 | [],_,_=>by simp
 | p::m,k,h=>by
  obtain⟨q,a⟩:=p;unfold glk at h;rw[cx] at h;by_cases e:k=q
  ·subst e;simp at h
  ·have e2:(k == q)=false:=by rw[beq_eq_false_iff_ne];exact e
   rw[e2] at h;have:=jL (m:=m) (k:=k) h
   simp only[aF,dJ,not_or];exact⟨e,this⟩
def nD:∀{m:List (κ×α)} {k:κ} {a:α},(m.map (·.1)).Nodup→glk m k=some a→m.Perm ((k,a)::gera m k)
 | [],_,_,_,h=>by cases h
 | p::m,k,a,hn,h=>by
  obtain⟨q,b⟩:=p;simp only[aF,fm] at hn;unfold glk at h;rw[cx] at h;by_cases e:k=q
  ·subst e;simp only[beq_self_eq_true] at h;obtain rfl:b=a:=by simpa using h
   have e3:gera ((k,b)::m) k=m:=by
    have:=pg hn.1
    unfold gera at this ⊢;rw[dD cc,this]
   rw[e3]
  ·have e2:(k == q)=false:=by rw[beq_eq_false_iff_ne];exact e
   rw[e2] at h;have ih:=nD hn.2 h
   have e3:gera ((q,b)::m) k=(q,b)::gera m k:=by
    unfold gera;rw[cB (by simp;exact fun x=>e x.symm)]
   rw[e3];exact(List.Perm.cons _ ih).trans (List.Perm.swap _ _ _)
def vw{k:κ}{a:α}:∀m:List (κ×α),gera (m.map fun p=>if p.1=k then(k,a) else p) k=gera m k
 | []=>rfl
 | p::m=>by
  have ih:=vw (k:=k) (a:=a) m;unfold gera at ih ⊢;simp only[aF];by_cases e:p.1=k
  ·rw[if_pos e,dD cc,dD (by simp[e]),ih]
  ·rw[if_neg e,cB (by simp[e]),cB (by simp[e]),ih]
def vv{m:List (κ×α)}{k:κ}{a:α}(hn:(m.map (·.1)).Nodup):(gins m k a).Perm ((k,a)::gera m k):=by
 have h1:=nD (m:=gins m k a) (k:=k) (a:=a) (jN hn) (by rw[ij,if_pos rfl])
 have h2:gera (gins m k a) k=gera m k:=by
  unfold gins;split
  ·exact vw m
  ·unfold gera;rw[cI];simp
 rw[h2] at h1;exact h1
end
end
section
open Go.V
def Gp(l:LL):∀a b:LL,OO l (a++b)=OO l a+OO l b
 | [],b=>by show OO l b=0+OO l b;omega
 | x::a,b=>by
  have:=Gp l a b
  show OV l x+OO l (a++b)=OV l x+OO l a+OO l b;omega
def xK(y:Lot)(f a n m:Int)(hn:0≤n)(hm:0≤m)(hy:0≤y.2.2):ov y (f,a,n+m)=ov y (f,a,n)+ov y (f,a+n,m):=by
 unfold ov;dsimp only;split<;>omega
def zh(f a n m:Int)(hn:0≤n)(hm:0≤m):∀l:LL,(∀y∈l,LotOk y)→OV l (f,a,n+m)=OV l (f,a,n)+OV l (f,a+n,m)
 | [],_=>rfl
 | y::l,h=>by
  have hy:=h y av;unfold LotOk at hy;have h1:=xK y f a n m hn hm ab;have h2:=zh f a n m hn hm l (fun z hz=>h z (au _ hz));show ov y _+OV l _=(ov y _+OV l _)+(ov y _+OV l _);omega
def zi(f a:Int):∀l:LL,(∀y∈l,LotOk y)→OV l (f,a,0)=0
 | [],_=>rfl
 | y::l,h=>by
  have h2:=zi f a l (fun z hz=>h z (au _ hz))
  have h1:ov y (f,a,0)=0:=by
   unfold ov;dsimp only;split<;>omega
  show ov y _+OV l _=0;omega
def Gn(l:LL)(x:Lot):∀(s:LL) (k:Nat),k<s.length→OO l (s.set k x)=OO l s - OV l s[k]! + OV l x
 | y::s,0,_=>by
  show OV l x+OO l s=OV l y+OO l s - OV l y+OV l x;omega
 | y::s,k+1,h=>by
  have:=Gn l x s k (by simpa using h)
  show OV l y+OO l (s.set k x)=OV l y+OO l s - OV l s[k]! + OV l x;omega
def BZ{l:LL}(hl:∀y∈l,LotOk y):∀(r out:LL),(∀z∈r,LotW z)→(∀z∈out,LotW z)→OO l (r.foldl bN out)=OO l out+OO l r
 | [],out,_,_=>by show OO l out=OO l out+0;omega
 | x::r,out,h1,h2=>by
  have hx:=h1 x av;have ih:=BZ hl r (bN out x) (fun z hz=>h1 z (au _ hz)) (Bz h2 hx)
  have e:OO l (bN out x)=OO l out+OV l x:=by
   unfold bN;by_cases c0:x.2.2=0
   ·rw[if_pos c0];have:=zi x.1 x.2.1 l hl
    rw[show((x.1,x.2.1,0):Lot)=x by rw[←c0]] at this;omega
   ·rw[if_neg c0];by_cases c1:out.length≠0∧lI x out[out.length - 1]!
    ·rw[if_pos c1,Gn l _ out _ ab];have hb:=h2 _ (aV (ab:out.length - 1<out.length));have hc:=lcont_iff.1 c1.2;generalize out[out.length - 1]! = b at *;unfold LotW at hb hx;have:=zh b.1 b.2.1 b.2.2 x.2.2 ab ab l hl
     rw[←hc.2,←hc.1] at this;rw[←hc.1,this];show OO l out - OV l b+(OV l (x.1,b.2.1,b.2.2)+OV l x)=OO l out+OV l x;rw[show((x.1,b.2.1,b.2.2):Lot)=b by rw[hc.1]];omega
    ·rw[if_neg c1,Gp];show OO l out+(OV l x+0)=_;omega
  show OO l (r.foldl bN (bN out x))=OO l out+(OV l x+OO l r);omega
def BY{w:Lot}:∀{l:LL},(∀q∈l,ov q w=0)→OV l w=0
 | [],_=>rfl
 | q::l,h=>by
  have h1:=h q av;have h2:=BY (l:=l) (fun p hp=>h p (au _ hp));show ov q w+OV l w=0;omega
def vI{w:Lot}:∀{l:LL} {y:Lot},(∀z∈l,LotOk z)→Apart l→y∈l→0≤w.2.2→w.1=y.1→y.2.1≤w.2.1→w.2.1+w.2.2≤y.2.1+y.2.2→OV l w=w.2.2
 | z::l,y,hl,ha,hy,h0,h1,h2,h3=>by
  obtain⟨a1,a2⟩:=List.pairwise_cons.1 ha;have hz:=hl z av;unfold LotOk at hz;have a0:∀q∈l,LotOk q:=fun q hq=>hl q (au _ hq);show ov z w+OV l w=w.2.2;rcases List.mem_cons.1 hy with rfl|hy
  ·have e1:ov y w=w.2.2:=by
    unfold ov;rw[if_pos h1.symm];omega
   have e2:OV l w=0:=by
    refine BY (fun q hq=>?_);have g1:=a1 q hq;have g2:=a0 q hq;unfold apart at g1;unfold LotOk at g2;unfold ov;split<;>omega
   omega
  ·have ih:=vI a0 a2 hy h0 h1 h2 h3;have g1:=a1 y hy;have a3:=a0 y hy;unfold LotOk at a3;unfold apart at g1
   have e1:ov z w=0:=by
    unfold ov;split<;>omega
   omega
def qK{l:LL}(hl:∀z∈l,LotOk z)(ha:Apart l):∀{s:LL},(∀w∈s,LotOk w∧∃y∈l,w.1=y.1∧y.2.1≤w.2.1∧w.2.1+w.2.2≤y.2.1+y.2.2)→OO l s=lsum s
 | [],_=>by rw[iM];rfl
 | w::s,h=>by
  obtain⟨h1,y,hy,h2,h3,h4⟩:=h w av;have ih:=qK hl ha (s:=s) (fun q hq=>h q (au _ hq));unfold LotOk at h1;have e:=vI hl ha hy ab h2 h3 h4;rw[gr];show OV l w+OO l s=_;omega
def Ha{a:LL}(h:∀x∈a,LotOk x){p:Lot}(hp:LotOk p):lsum (ny a [p])=OV (setL a) p:=by
 have hs:=(qS h).2
 have a0:Apart (setL a):=by
  have:=(mR h a.length (aq _)).1
  rw[cC] at this;exact wI this
 have a2:∀x∈[p],LotOk x:=fun x hx=>by rw[List.mem_singleton.1 hx];exact hp
 have e0:jI a [p]=(subL (setL a) p).foldl bN []:=wv _ _;have hX:=(qe h a2).1
 have hin:∀w∈subL (setL a) p,LotOk w∧∃y∈setL a,w.1=y.1∧y.2.1≤w.2.1∧w.2.1+w.2.2≤y.2.1+y.2.2:=fun w hw=>by
  obtain⟨y,hy,g1,g2,g3,g4⟩:=oc hp hs hw;exact⟨g1,y,hy,g2,g3,g4⟩
 have a1:Apart (jI a [p]):=by
  rw[e0];refine kN ?_ (fun z hz=>?_)
  ·rw[ak];exact(mo hp hs a0).1
  ·rw[ak] at hz;have:=(hin z hz).1
   unfold LotOk at this;omega
 have e1:lsum (ny a [p])=lsum (setL a) - OO (setL a) (jI a [p]):=uV hs hX a1
 have e2:OO (setL a) (jI a [p])=OO (setL a) (subL (setL a) p):=by
  rw[e0,BZ hs _ _ (fun z hz=>(hin z hz).1.w) (fun z hz=>absurd hz ay)];show 0+_=_;omega
 rw[e1,e2,qK hs a0 hin,rO hp hs];omega
def ub{l:LL}{p:Lot}(hl:∀y∈l,LotOk y)(hp:LotOk p):OV l p≠0↔∃y∈l,¬apart y p:=by
 constructor
 ·intro h;refine Classical.byContradiction (fun q=>h ?_);have a0:∀y∈l,apart y p:=fun y hy=>Classical.byContradiction (fun r=>q ⟨y,hy,r⟩);clear h q;induction l with
  | nil=>rfl
  | cons y l ih =>
   have h1:=(qW (hl y av) hp).2 (a0 y av);have h2:=ih (fun z hz=>hl z (au _ hz)) (fun z hz=>a0 z (au _ hz));show ov y p+OV l p=0;omega
 ·rintro⟨y,hy,hn⟩ e;exact hn ((qW (hl y hy) hp).1 (uQ e y hy))
def oW{a:LL}(h:∀x∈a,LotOk x)(ha:Apart a){p:Lot}(hp:LotOk p):ny a [p]≠[]↔∃y∈a,y.1=p.1∧ovP p y:=by
 have hs:=(qS h).2;have a1:∀x∈[p],LotOk x:=fun x hx=>by rw[List.mem_singleton.1 hx];exact hp
 have a0:∀z∈ny a [p],LotOk z:=(wu hs (qe h a1).1).1;have e:=Ha h hp;obtain⟨_,_,g3,_⟩:=mR h a.length (aq _);rw[cC] at g3;have e2:OV (setL a) p=OV a p:=(g3 ((oE h).2 ha)).2 p hp
 have e3:ny a [p]≠[]↔OV a p≠0:=by
  rw[←e2,←e];constructor
  ·intro h2 h3;have:=ky a0 (List.length_pos_iff.2 h2)
   omega
  ·intro h2 h3;rw[h3,iM] at h2;exact h2 rfl
 rw[e3,ub h hp];constructor
 ·rintro⟨y,hy,hn⟩;refine⟨y,hy,?_⟩;unfold apart at hn;unfold ovP;omega
 ·rintro⟨y,hy,h1,h2⟩;refine⟨y,hy,?_⟩;unfold ovP at h2;unfold apart;omega
