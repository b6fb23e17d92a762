/- Lemmas. -/
import Derived.Test.YtommnllbflbdmaaGreatDoorLbc
set_option linter.all false
set_option maxHeartbeats 1000000
namespace Go.Proofs.YtommnllbflbdmaaGreatDoor
section
open Go.V
theorem oP:∀{r out:LL},∀z∈r.foldl be out,∃y∈out++r,z.1=y.1
 | [],out,z,hz=>⟨z,cA _ hz,rfl⟩
 | x::r,out,z,hz=>by
  obtain⟨y,hy,e⟩:=oP (r:=r) (out:=be out x) z hz;rcases List.mem_append.1 hy with hy|hy
  ·have h:∀w∈be out x,∃v∈out++x::r,w.1=v.1:=by
    intro w hw;unfold be at hw;split at hw
    ·exact⟨w,cA _ hw,rfl⟩
    ·split at hw
     ·rename_i hc;rcases cK hw with hw|rfl
      ·exact⟨w,cA _ hw,rfl⟩
      ·exact⟨_,cA _ (aI (show out.length - 1<out.length by omega)),rfl⟩
     ·rcases List.mem_append.1 hw with hw|hw
      ·exact⟨w,cA _ hw,rfl⟩
      ·exact⟨w,cV _ (by rw[List.mem_singleton.1 hw];exact aw),rfl⟩
   obtain⟨v,hv,e2⟩:=h y hy;exact⟨v,hv,e.trans e2⟩
  ·exact⟨y,cV _ (av _ hy),e⟩
theorem mP:∀(r out:LL),r.foldl be out=(r.filter (fun x=>decide (x.2.2≠0))).foldl be out
 | [],_=>rfl
 | x::r,out=>by
  by_cases h:x.2.2=0
  ·rw[cv (by simpa using h)];have e:be out x=out:=if_pos h;show r.foldl be (be out x)=_;rw[e];exact mP r out
  ·rw[cu (by simpa using h)];exact mP r (be out x)
theorem kz:∀{r out:LL},Apart (out++r)→(∀z∈out++r,1≤z.2.2)→Apart (r.foldl be out)
 | [],out,h,_=>by rwa [ba] at h
 | x::r,out,h,hn=>by
  have hx:=hn x (cV _ aw);have hassoc:out++x::r=(out++[x])++r:=by rw[aH];rfl
  by_cases hc:out.length≠0∧kB x out[out.length - 1]!
  case neg =>
   have e:be out x=out++[x]:=by unfold be;rw[if_neg ac,if_neg hc]
   show Apart (r.foldl be (be out x));rw[e];rw[hassoc] at h hn;exact kz h hn
  obtain⟨hl,hk⟩:=hc;have e:be out x=out.set (out.length - 1) (out[out.length - 1]!.1,out[out.length - 1]!.2.1,out[out.length - 1]!.2.2+x.2.2):=by unfold be;rw[if_neg ac,if_pos ⟨hl,hk⟩]
  rcases List.eq_nil_or_concat out with rfl|⟨ini,b,rfl⟩
  ·exact absurd rfl hl
  rw[List.concat_eq_append] at *
  have eb:(ini++[b])[(ini++[b]).length - 1]! = b:=by
   rw[getElem!_of (by simp)];simp
  rw[eb] at e hk
  have es:(ini++[b]).set ((ini++[b]).length - 1) (b.1,b.2.1,b.2.2+x.2.2)=ini++[(b.1,b.2.1,b.2.2+x.2.2)]:=by
   rw[az,bC,Nat.add_sub_cancel,List.set_append_right _ _ (aB _)];simp
  rw[es] at e;show Apart (r.foldl be (be (ini++[b]) x));rw[e];have hk2:=lcont_iff.1 hk;have hb:=hn b (cA _ (cV _ (List.mem_singleton_self _)));have e3:(ini++[b])++x::r=ini++(b::x::r):=by rw[aH];rfl
  rw[e3] at h hn;obtain⟨a1,a2,a3⟩:=List.pairwise_append.1 h;obtain⟨a4,a5⟩:=List.pairwise_cons.1 a2;obtain⟨a6,a7⟩:=List.pairwise_cons.1 a5;refine kz ?_ ?_
  ·rw[show(ini++[(b.1,b.2.1,b.2.2+x.2.2)])++r=ini++((b.1,b.2.1,b.2.2+x.2.2)::r) by rw[aH];rfl];refine List.pairwise_append.2 ⟨a1,List.pairwise_cons.2 ⟨fun z hz=>?_,a7⟩,fun z hz w hw=>?_⟩
   ·have g1:=a4 z (av _ hz);have g2:=a6 z hz;have g3:=hn z (cV _ (av _ (av _ hz)));unfold apart at g1 g2 ⊢;dsimp only;omega
   ·rcases List.mem_cons.1 hw with rfl|hw
    ·have g1:=a3 z hz b aw;have g2:=a3 z hz x (av _ aw);have g3:=hn z (cA _ hz);unfold apart at g1 g2 ⊢;dsimp only;omega
    ·exact a3 z hz w (av _ (av _ hw))
  ·intro z hz;rcases List.mem_append.1 hz with hz|hz
   ·rcases List.mem_append.1 hz with hz|hz
    ·exact hn z (cA _ hz)
    ·rw[List.mem_singleton.1 hz];dsimp only;omega
   ·exact hn z (cV _ (av _ (av _ hz)))
theorem sn{α β γ:Type}(f:γ→β→γ)(g:α→List β):∀(s:List α) (out:γ),(s.flatMap g).foldl f out=s.foldl (fun o y=>(g y).foldl f o) out
 | [],_=>rfl
 | y::s,out=>by
  rw[bY,cJ];exact sn f g s _
theorem ml:∀(set l:LL),set.foldl subL l=l.flatMap (fun y=>set.foldl subL [y])
 | [],l=>by
  show l=l.flatMap (fun y=>[y]);induction l with
  | nil=>rfl
  | cons y l ih=>rw[bY,←ih];rfl
 | x::set,l=>by
  have e1:∀l,(x::set).foldl subL l=(subL l x).flatMap (fun y=>set.foldl subL [y]):=fun l=>ml set (subL l x);rw[e1];induction l with
  | nil=>rfl
  | cons y l ih =>
   have e2:subL (y::l) x=subL [y] x++subL l x:=by
    unfold subL;rw[bY,bY];simp
   rw[e2,cM,ih,bY];congr 1;exact(e1 [y]).symm
theorem nv(s set:LL):eh s set=(set.foldl subL s).foldl be []:=by
 rw[ml,sn];rfl
theorem DI:∀{set l:LL},(∀x∈set,LotOk x)→(∀y∈l,LotOk y)→Apart l→(∀y∈set.foldl subL l,LotOk y∧∃w∈l,y.1=w.1)∧Apart (set.foldl subL l)∧(set.foldl subL l).length≤l.length+set.length
 | [],l,_,hl,ha=>⟨fun y hy=>⟨hl y hy,y,hy,rfl⟩,ha,aB _⟩
 | x::set,l,hs,hl,ha=>by
  have hx:=hs x aw;obtain⟨h1,h2⟩:=lE hx hl ha;obtain⟨i1,i2,i3⟩:=DI (set:=set) (l:=subL l x) (fun z hz=>hs z (av _ hz)) (pF hx hl) h1;refine⟨fun y hy=>?_,i2,?_⟩
  ·obtain⟨g1,w,hw,e⟩:=i1 y hy;obtain⟨v,hv,_,e2,_⟩:=na hx hl hw;exact⟨g1,v,hv,e.trans e2⟩
  ·rw[bD];show(set.foldl subL (subL l x)).length≤_;omega
structure StkG (k:Nat) (id:Int) (l:LL):Prop where
 len:l.length≤k
 ok:∀x∈l,LotOk x∧x.1<id
 apt:Apart l
theorem StkG.lots{k:Nat}{id:Int}{l:LL}(h:StkG k id l):∀x∈l,LotOk x:=fun x hx=>(h.ok x hx).1
theorem StkG.mono{k k' : Nat}{id id' : Int}{l:LL}(h:StkG k id l)(hk:k≤k')(hi:id≤id'):StkG k' id' l:=⟨cB h.len hk,fun x hx=>⟨(h.ok x hx).1,by have:=(h.ok x hx).2;omega⟩,h.apt⟩
theorem sF{k:Nat}{id:Int}{l ps:LL}(h:StkG k id l)(hp:∀x∈ps,LotOk x):StkG (k+ps.length) id (eh l ps):=by
 obtain⟨c1,c2,c3⟩:=DI hp h.lots h.apt;have hl:=h.len;rw[nv];refine⟨?_,fun x hx=>?_,kz c2 (fun z hz=>(c1 z hz).1.2.2.2.1)⟩
 ·have:=kE (ps.foldl subL l) []
  simp only[cH] at this;omega
 ·obtain⟨y,hy,e⟩:=oP (r:=ps.foldl subL l) (out:=[]) x hx;rw[aq] at hy;obtain⟨_,w,hw,e2⟩:=c1 y hy;have:=(h.ok w hw).2
  refine⟨kP (by simp) (fun z hz=>(c1 z hz).1.w) x hx,?_⟩;rw[e,e2];exact this
theorem zC{mixed:Bool}{k:Nat}{id n:Int}{l:LL}(h:StkG k id l)(hk:l.length≤4096)(h0:0≤n)(h1:n≤lsum l):StkG k id (eJ mixed l n):=by
 have hb:=mZ mixed l n h.lots h0 h1;have hok:=(sw h.lots hb).2;refine⟨cB (jF _ _ _).2 h.len,fun x hx=>⟨hok x hx,?_⟩,?_⟩
 ·obtain⟨y,hy,e⟩:=oP (r:=(List.range l.length).map (pcR l (tkC mixed l n))) (out:=[]) x hx;rw[aq] at hy;obtain⟨j,hj,rfl⟩:=List.mem_map.1 hy;have hj:=List.mem_range.1 hj;have:=(h.ok _ (aI hj)).2
  rw[e];exact this
 ·show Apart (((List.range l.length).map (pcR l (tkC mixed l n))).foldl be []);rw[mP]
  have hpw:Apart ((List.range l.length).map (pcR l (tkC mixed l n))):=by
   unfold Apart;rw[List.pairwise_map];refine List.Pairwise.imp_of_mem ?_ List.pairwise_lt_range;intro i j hi hj hij;have hi:=List.mem_range.1 hi;have hj:=List.mem_range.1 hj;have ha:=List.pairwise_iff_getElem.1 h.apt i j hi hj hij;rw[←getElem!_of hi,←getElem!_of hj] at ha;have b1:=hb i hi;have b2:=hb j hj;unfold apart at ha ⊢;simp only[pcR,pc1,pc2];omega
  refine kz ?_ ?_
  ·rw[aq];exact hpw.filter _
  ·intro z hz;rw[aq] at hz;obtain⟨g1,g2⟩:=List.mem_filter.1 hz;obtain⟨j,hj,rfl⟩:=List.mem_map.1 g1;have hj:=List.mem_range.1 hj;have b1:=hb j hj;have g3:(pcR l (tkC mixed l n) j).2.2≠0:=by simpa using g2
   simp only[pcR,pc1,pc2] at g3 ⊢;omega
theorem GS{k:Nat}{id n:Int}{l:LL}(h:StkG k id l)(hid:0≤id)(hn:1≤n∧n≤1099511627776):StkG (k+1) (id+1) (be l (id,0,n)):=by
 rw[nS h.lots hn.1];have hl:=h.len;refine⟨by rw[az,bC];omega,fun x hx=>?_,List.pairwise_append.2 ⟨h.apt,cR _ _,fun y hy w hw=>?_⟩⟩
 ·rcases List.mem_append.1 hx with hx|hx
  ·have:=h.ok x hx
   exact⟨this.1,ac⟩
  ·rw[List.mem_singleton.1 hx];refine⟨⟨hid,bu _,by dsimp only;omega,hn.1,by dsimp only;omega⟩,by dsimp only;omega⟩
 ·rw[List.mem_singleton.1 hw];have:=(h.ok y hy).2
  unfold apart;dsimp only;omega
def gPts(mix:Int→Bool)(s:StM)(W:Wk)(m:MvM):LL:=if m.frm=0 then(if s.kind=5∨s.kind=9 then m.parts else[]) else if m.parts=[] then gN (mix m.item) (W.stk m.frm m.item) m.n else m.parts
def kY(mix:Int→Bool)(W:Wk)(m:MvM):LL:=if m.parts=[] then eJ (mix m.item) (W.stk m.frm m.item) m.n else eh (W.stk m.frm m.item) m.parts
def gStk(mix:Int→Bool)(W:Wk)(m:MvM):Int→Int→LL:=if m.frm=0 then W.stk else upd2 W.stk m.frm m.item (kY mix W m)
def gErr(sh:Int)(fl:List FlM)(s:StM)(W:Wk)(m:MvM):Int :=
 if m.frm=0 then(if s.kind=5 then arrG sh fl m.parts else if s.kind=9 then revG fl m.item m.parts else 0)
 else if m.parts=[] then(if lsum (W.stk m.frm m.item)<m.n then 10 else 0) else if fT m.parts (W.stk m.frm m.item) then 0 else 10
def fq(sh:Int)(nf:Nat)(mix:Int→Bool)(s:StM)(W:Wk)(m:MvM):FlM:=⟨cN sh nf W,s.id,s.kind,s.tick,s.actor,m.frm,m.to,m.item,m.n,gPts mix s W m,du s W m⟩
def dq(sh:Int)(fl:List FlM)(mix:Int→Bool)(s:StM)(W:Wk)(m:MvM):Int×Wk :=
 if gErr sh (fl++W.flows) s W m≠0 then(gErr sh (fl++W.flows) s W m,W)
 else if dd W m>1099511627776 then(4,W)
 else if m.to=0 then(0,⟨gStk mix W m,upd W.tot m.item (dd W m),W.flows++[fq sh fl.length mix s W m],W.sunk++[cN sh fl.length W]⟩)
 else if 4096≤(gStk mix W m m.to m.item).length then(4,W)
 else(0,⟨upd2 (gStk mix W m) m.to m.item (be (gStk mix W m m.to m.item) (cN sh fl.length W,0,m.n)),upd W.tot m.item (dd W m),W.flows++[fq sh fl.length mix s W m],W.sunk⟩)
def FlG(fl:List FlM):Prop:=∀f∈fl,(∀x∈f.parts,LotOk x)∧f.parts.length≤2047
structure WkG (sh:Int) (fl:List FlM) (k:Nat) (W:Wk):Prop where
 stk:∀a i,StkG k (cN sh fl.length W) (W.stk a i)
 tot:∀i,-(((fl.length:Int)+W.flows.length)*1099511627776)≤W.tot i∧W.tot i≤1099511627776
 sunk:W.sunk.length≤W.flows.length
 flows:FlG W.flows
structure MvG (m:MvM):Prop where
 n:1≤m.n∧m.n≤1099511627776
 ne:m.frm≠m.to
 parts:m.parts=[]∨nk m.parts m.n
theorem MvG.lots{m:MvM}(h:MvG m):∀x∈m.parts,LotOk x:=fun x hx=>by
 rcases h.parts with q|q
 ·rw[q] at hx;cases hx
 ·exact q.1.1 x hx
theorem wz{sh:Int}{fl:List FlM}{mix:Int→Bool}{s:StM}{W:Wk}{k:Nat}{m:MvM}(h:WkG sh fl k W)(hm:MvG m)(hk:k≤2000)(he:gErr sh (fl++W.flows) s W m=0)(a i:Int):StkG (k+m.parts.length) (cN sh fl.length W) (gStk mix W m a i):=by
 unfold gStk;unfold gErr at he;by_cases h0:m.frm=0
 ·rw[if_pos h0];exact(h.stk a i).mono (dQ _ _) (bu _)
 rw[if_neg h0] at he ⊢;unfold upd2;by_cases ha:a=m.frm∧i=m.item
 case neg =>
  rw[if_neg ha];exact(h.stk a i).mono (dQ _ _) (bu _)
 rw[if_pos ha];have hs:=h.stk m.frm m.item;have hl:=hs.len;have hn:=hm.n;unfold kY;by_cases hp:m.parts=[]
 ·rw[if_pos hp] at he ⊢;by_cases hq:lsum (W.stk m.frm m.item)<m.n
  ·rw[if_pos hq] at he;exact absurd he ae
  ·exact(zC hs ac ac ac).mono (dQ _ _) (bu _)
 ·rw[if_neg hp];exact sF hs hm.lots
theorem Dr{sh:Int}{fl:List FlM}{mix:Int→Bool}{s:StM}{W:Wk}{k:Nat}{m:MvM}(h:WkG sh fl k W)(hm:MvG m)(hk:k+m.parts.length≤2000)(he:gErr sh (fl++W.flows) s W m=0):(∀x∈gPts mix s W m,LotOk x)∧(gPts mix s W m).length≤2047:=by
 have hs:=h.stk m.frm m.item;have hl:=hs.len;have hn:=hm.n;unfold gErr at he;unfold gPts;by_cases h0:m.frm=0
 ·rw[if_pos h0];split
  ·exact⟨hm.lots,ac⟩
  ·exact⟨(fun x hx=>by cases hx),ao _⟩
 rw[if_neg h0] at he ⊢;by_cases hp:m.parts=[]
 ·rw[if_pos hp] at he ⊢;by_cases hq:lsum (W.stk m.frm m.item)<m.n
  ·rw[if_pos hq] at he;exact absurd he ae
  ·exact⟨(sw hs.lots (mZ _ _ _ hs.lots ac ac)).1,cB (jF _ _ _).1 ac⟩
 ·rw[if_neg hp];exact⟨hm.lots,ac⟩
theorem qW{sh:Int}{fl:List FlM}{mix:Int→Bool}{s:StM}{W:Wk}{k:Nat}{m:MvM}(hsh:0≤sh)(h:WkG sh fl k W)(hm:MvG m)(hk:k+m.parts.length≤2000)(he:(dq sh fl mix s W m).1=0):WkG sh fl (k+m.parts.length+1) (dq sh fl mix s W m).2∧(dq sh fl mix s W m).2.flows=W.flows++[fq sh fl.length mix s W m]:=by
 unfold dq at he ⊢;by_cases h1:gErr sh (fl++W.flows) s W m≠0
 ·rw[if_pos h1] at he;exact absurd he h1
 rw[if_neg h1] at he ⊢;have h1' : gErr sh (fl++W.flows) s W m=0:=Classical.not_not.1 h1;by_cases h2:dd W m>1099511627776
 ·rw[if_pos h2] at he;exact absurd (show(4:Int)=0 from he) ae
 rw[if_neg h2] at he ⊢;have hS:=fun a i=>wz (mix:=mix) h hm ac h1' a i;have hP:=Dr (mix:=mix) h hm hk h1';have hn:=hm.n
 have hfl:FlG (W.flows++[fq sh fl.length mix s W m]):=fun f hf=>by
  rcases List.mem_append.1 hf with hf|hf
  ·exact h.flows f hf
  ·rw[List.mem_singleton.1 hf];exact hP
 have hid:∀{W2:Wk},W2.flows=W.flows++[fq sh fl.length mix s W m]→cN sh fl.length W2=cN sh fl.length W+1:=fun {W2} e=>by
  unfold cN;rw[e,az,bC];omega
 have hid0:0≤cN sh fl.length W:=by unfold cN;omega
 have htot:∀i,-(((fl.length:Int)+(W.flows++[fq sh fl.length mix s W m]).length)*1099511627776)≤upd W.tot m.item (dd W m) i∧upd W.tot m.item (dd W m) i≤1099511627776:=fun i=>by
  rw[az,bC];unfold upd;have t1:=h.tot i;have t2:=h.tot m.item;split
  ·refine⟨?_,ac⟩;unfold dd;split<;>split<;>omega
  ·omega
 by_cases h3:m.to=0
 ·rw[if_pos h3];refine⟨⟨fun a i=>?_,htot,?_,hfl⟩,rfl⟩
  ·rw[hid rfl];exact(hS a i).mono ac ac
  ·have:=h.sunk
   simp only[az,bC];omega
 rw[if_neg h3] at he ⊢;by_cases h4:4096≤(gStk mix W m m.to m.item).length
 ·rw[if_pos h4] at he;exact absurd (show(4:Int)=0 from he) ae
 rw[if_neg h4];refine⟨⟨fun a i=>?_,htot,?_,hfl⟩,rfl⟩
 ·rw[hid rfl];dsimp only;unfold upd2;split
  ·exact GS (hS m.to m.item) hid0 hn
  ·exact(hS a i).mono ac ac
 ·have:=h.sunk
  simp only[az,bC];omega
theorem lQ{x y:Lot}(h:y.1≠x.1∨x.2.1+x.2.2≤y.2.1∨y.2.1+y.2.2≤x.2.1):subS x y=[y]:=if_pos h
theorem lX{x y:Lot}(h:¬(y.1≠x.1∨x.2.1+x.2.2≤y.2.1∨y.2.1+y.2.2≤x.2.1)):subS x y=(if y.2.1<x.2.1 then[(x.1,y.2.1,x.2.1 - y.2.1)] else[])++(if x.2.1+x.2.2<y.2.1+y.2.2 then[(x.1,x.2.1+x.2.2,y.2.1+y.2.2 - x.2.1 - x.2.2)] else[]):=if_neg h
theorem pR{α β:Type}(c:Prop)[Decidable c](a:α)(g:α→List β):(if c then[a] else[]).flatMap g=if c then g a else[]:=by
 split
 ·simp
 ·rfl
theorem mK{x:Lot}{l:LL}(h:∀z∈l,apart z x):l.flatMap (subS x)=l:=ke h
theorem mq{α β:Type}(a:α)(g:α→List β):[a].flatMap g=g a:=by simp
theorem rD{x y z:Lot}(hx:LotOk x)(hy:LotOk y)(hz:LotOk z)(hf1:x.1=z.1)(hf2:y.1=z.1)(h:x.2.1+x.2.2≤y.2.1):(subS x z).flatMap (subS y)=(subS y z).flatMap (subS x):=by
 by_cases c1:x.2.1+x.2.2≤z.2.1∨z.2.1+z.2.2≤x.2.1
 ·rw[lQ (x:=x) (y:=z) (.inr c1),mq,mK];intro w hw;obtain⟨_,_,h2,h3⟩:=lP hy hz hw;unfold apart;omega
 by_cases c2:y.2.1+y.2.2≤z.2.1∨z.2.1+z.2.2≤y.2.1
 ·rw[lQ (x:=y) (y:=z) (.inr c2),mq,mK];intro w hw;obtain⟨_,_,h2,h3⟩:=lP hx hz hw;unfold apart;omega
 obtain⟨f,a,n⟩:=x;obtain⟨g,c,m⟩:=y;obtain⟨q,s,k⟩:=z;unfold LotOk at hx hy hz;dsimp only at *;obtain rfl:=hf1;obtain rfl:=hf2;rw[lX (by dsimp only;omega),lX (by dsimp only;omega)];dsimp only;rw[cM,cM,pR,pR,pR,pR];rw[if_pos (show a+n<s+k by omega),if_pos (show s<c by omega)];rw[lX (x:=(g,c,m)) (y:=(g,a+n,s+k - a - n)) (by dsimp only;omega),lX (x:=(g,a,n)) (y:=(g,s,c - s)) (by dsimp only;omega)];rw[lQ (x:=(g,a,n)) (y:=(g,c+m,s+k - c - m)) (by dsimp only;omega),lQ (x:=(g,c,m)) (y:=(g,s,a - s)) (by dsimp only;omega)];dsimp only;rw[aH];congr 1;congr 1
 ·by_cases e:a+n<c
  ·rw[if_pos e,if_pos ac,show s+(c - s) - a - n=c - (a+n) by omega]
  ·rw[if_neg e,if_neg ac]
 ·by_cases e:c+m<s+k
  ·rw[if_pos e,if_pos ac,show a+n+(s+k - a - n) - c - m=s+k - c - m by omega]
  ·rw[if_neg e,if_neg ac]
theorem Cm{x y z:Lot}(hx:LotOk x)(hy:LotOk y)(hz:LotOk z)(h:apart x y):(subS x z).flatMap (subS y)=(subS y z).flatMap (subS x):=by
 by_cases f1:x.1=z.1
 case neg =>
  rw[lQ (x:=x) (y:=z) (.inl (fun e=>f1 e.symm)),mq,mK];intro w hw;obtain⟨_,e,_⟩:=lP hy hz hw;exact .inl (fun q=>f1 (q.symm.trans e))
 by_cases f2:y.1=z.1
 case neg =>
  rw[lQ (x:=y) (y:=z) (.inl (fun e=>f2 e.symm)),mq,mK];intro w hw;obtain⟨_,e,_⟩:=lP hx hz hw;exact .inl (fun q=>f2 (q.symm.trans e))
 rcases h with h|h|h
 ·exact absurd (f1.trans f2.symm) h
 ·exact rD hx hy hz f1 f2 h
 ·exact(rD hy hx hz f2 f1 h).symm
theorem pA(x y:Lot):∀l:LL,subL (subL l x) y=l.flatMap (fun z=>(subS x z).flatMap (subS y))
 | []=>rfl
 | z::l=>by
  have ih:=pA x y l;unfold subL at ih ⊢;rw[bY,cM,ih,bY]
theorem uk{α β:Type}{g h:α→List β}:∀{l:List α},(∀z∈l,g z=h z)→l.flatMap g=l.flatMap h
 | [],_=>rfl
 | z::l,e=>by
  rw[bY,bY,e z aw,uk (fun y hy=>e y (av _ hy))]
theorem Cn{x y:Lot}{l:LL}(hx:LotOk x)(hy:LotOk y)(hl:∀z∈l,LotOk z)(h:apart x y):subL (subL l x) y=subL (subL l y) x:=by
 rw[pA,pA];exact uk (fun z hz=>Cm hx hy (hl z hz) h)
theorem EK{ps qs:LL}(p:ps.Perm qs):∀{l:LL},(∀x∈ps,LotOk x)→Apart ps→(∀y∈l,LotOk y)→ps.foldl subL l=qs.foldl subL l:=by
 induction p with
 | nil=>intro l _ _ _;rfl
 | cons x p ih =>
  intro l h1 h2 h3;have hx:=h1 x aw;exact ih (fun y hy=>h1 y (av _ hy)) (List.pairwise_cons.1 h2).2 (pF hx h3)
 | swap x y l' =>
  intro l h1 h2 h3;have hy:=h1 y aw;have hx:=h1 x (av _ aw);have ha:=(List.pairwise_cons.1 h2).1 x aw;show l'.foldl subL (subL (subL l y) x)=l'.foldl subL (subL (subL l x) y);rw[Cn hy hx h3 ha]
 | trans p1 p2 ih1 ih2 =>
  intro l h1 h2 h3;rw[ih1 h1 h2 h3];refine ih2 (fun x hx=>h1 x (p1.mem_iff.2 hx)) ?_ h3;exact(p1.pairwise_iff (fun {a b} q=>by unfold apart at *;omega)).1 h2
end
section
open Go.V
attribute [local irreducible] G GO GP GPW GPK Ev Ef EfR Ent CB GB V.Enters
abbrev Hd:=Int×Int×Int
def gw(h:Int×Int×Int):LV:=[ab h.1,ab h.2.1,ab h.2.2]
theorem ui(t:Hd):∀u∈gw t,u.oneCell' = true:=by simp[gw,Value.oneCell']
abbrev tHd:Nat:=112
def hdC(x y:Hd):Int:=orI (cmpI x.1 y.1) (cmpI x.2.1 y.2.1)
def klt(x y:Hd):Prop:=x.1<y.1∨(x.1=y.1∧x.2.1<y.2.1)
theorem nm(x y:Hd):hdC x y<0↔klt x y:=by
 unfold hdC orI cmpI klt;(repeat' split)<;>omega
theorem zF:Go.Sort.SWO (ltOf hdC) where
 irrefl x:=by simp only[ltOf,decide_eq_false_iff_not];rw[nm];unfold klt;omega
 trans x y z h1 h2:=by simp only[ltOf,decide_eq_true_eq] at *;rw[nm] at *;unfold klt at *;omega
 ntrans x y z h1 h2:=by simp only[ltOf,decide_eq_false_iff_not] at *;rw[nm] at *;unfold klt at *;omega
structure HoldL (f:Int→Int→Int) (hs:List Hd):Prop where
 srt:hs.Pairwise klt
 mem:∀h,h∈hs↔h.2.2=f h.1 h.2.1∧h.2.2≠0
theorem se{x:Hd}:¬klt x x:=by unfold klt;omega
theorem Db{x y:Hd}(h:klt x y):¬klt y x:=by unfold klt at *;omega
theorem ol:∀{l m:List Hd},l.Pairwise klt→m.Pairwise klt→(∀x,x∈l↔x∈m)→l=m
 | [],[],_,_,_=>rfl
 | [],y::m,_,_,h=>absurd ((h y).2 aw) (by simp)
 | x::l,[],_,_,h=>absurd ((h x).1 aw) (by simp)
 | x::l,y::m,h1,h2,h=>by
  obtain⟨a1,a2⟩:=List.pairwise_cons.1 h1;obtain⟨b1,b2⟩:=List.pairwise_cons.1 h2
  have e:x=y:=by
   rcases List.mem_cons.1 ((h x).1 aw) with e|hx
   ·exact e
   ·rcases List.mem_cons.1 ((h y).2 aw) with e|hy
    ·exact e.symm
    ·exact absurd (a1 y hy) (Db (b1 x hx))
  subst e;rw[ol a2 b2 (fun z=>?_)];constructor
  ·intro hz;rcases List.mem_cons.1 ((h z).1 (av _ hz)) with e|q
   ·exact absurd (e▸a1 z hz) se
   ·exact q
  ·intro hz;rcases List.mem_cons.1 ((h z).2 (av _ hz)) with e|q
   ·exact absurd (e▸b1 z hz) se
   ·exact q
theorem HoldL.unique{f g:Int→Int→Int}{l m:List Hd}(h1:HoldL f l)(h2:HoldL g m)(e:∀a i,f a i=g a i):l=m :=
 ol h1.srt h2.srt (fun x=>by rw[h1.mem,h2.mem,e])
end
section
open Go.V
def fY(x:Lot)(s:LL×Int×Int)(p:Lot):LL×Int×Int :=
 if max p.2.1 s.2.1 ≥ min (p.2.1+p.2.2) (x.2.1+x.2.2) then s
 else(be s.1 (x.1,s.2.1,max p.2.1 s.2.1 - s.2.1),min (p.2.1+p.2.2) (x.2.1+x.2.2),s.2.2 - (min (p.2.1+p.2.2) (x.2.1+x.2.2) - max p.2.1 s.2.1))
def wLot(x:Lot)(ps:LL)(s:LL×Int):LL×Int :=
 (be (ps.foldl (fY x) (s.1,x.2.1,s.2)).1 (x.1,(ps.foldl (fY x) (s.1,x.2.1,s.2)).2.1,x.2.1+x.2.2 - (ps.foldl (fY x) (s.1,x.2.1,s.2)).2.1),(ps.foldl (fY x) (s.1,x.2.1,s.2)).2.2)
def ofF(ys:LL)(f:Int):LL:=ys.filter (fun p=>decide (p.1=f))
def wAll(ys:LL)(stack:LL)(s:LL×Int):LL×Int:=stack.foldl (fun s x=>wLot x (ofF ys x.1) s) s
def curL(x:Lot)(at_:Int):LL:=if at_<x.2.1+x.2.2 then[(x.1,at_,x.2.1+x.2.2 - at_)] else[]
def Ord(ys:LL):Prop:=ys.Pairwise (fun a b=>a.2.1+a.2.2≤b.2.1)
theorem Gf(a b:LL):∀ps:LL,ps.foldl subL (a++b)=ps.foldl subL a++ps.foldl subL b:=fun ps=>by
 rw[ml ps (a++b),ml ps a,ml ps b,cM]
theorem DJ:∀{ps l:LL},(∀p∈ps,∀z∈l,apart z p)→ps.foldl subL l=l
 | [],_,_=>rfl
 | p::ps,l,h=>by
  show ps.foldl subL (subL l p)=l;rw[ke (h p aw)];exact DJ (fun q hq=>h q (av _ hq))
theorem qA{x:Lot}(hx:LotOk x):∀(ys:LL) (out:LL) (at_ mis:Int),Ord ys→(∀p∈ys,LotOk p∧p.1=x.1)→x.2.1≤at_→at_≤x.2.1+x.2.2 →
  be (ys.foldl (fY x) (out,at_,mis)).1 (x.1,(ys.foldl (fY x) (out,at_,mis)).2.1,x.2.1+x.2.2 - (ys.foldl (fY x) (out,at_,mis)).2.1)=(ys.foldl subL (curL x at_)).foldl be out ∧
  (ys.foldl (fY x) (out,at_,mis)).2.2=mis - OV ys (x.1,at_,x.2.1+x.2.2 - at_)
 | [],out,at_,mis,_,_,h1,h2=>by
  refine⟨?_,by show mis=mis - 0;omega⟩;show be out (x.1,at_,x.2.1+x.2.2 - at_)=(curL x at_).foldl be out;unfold curL;by_cases c:at_<x.2.1+x.2.2
  ·rw[if_pos c];rfl
  ·rw[if_neg c];show _=out;exact if_pos (by dsimp only;omega)
 | p::ys,out,at_,mis,ho,hp,h1,h2=>by
  obtain⟨o1,o2⟩:=List.pairwise_cons.1 ho;obtain⟨hpo,hpf⟩:=hp p aw;have hp2:∀q∈ys,LotOk q∧q.1=x.1:=fun q hq=>hp q (av _ hq);have hpo2:=hpo;unfold LotOk at hpo2 hx;by_cases c:max p.2.1 at_ ≥ min (p.2.1+p.2.2) (x.2.1+x.2.2)
  ·have es:fY x (out,at_,mis) p=(out,at_,mis):=if_pos c
   have ec:subL (curL x at_) p=curL x at_:=by
    unfold curL;split
    ·refine ke (fun z hz=>?_);rw[List.mem_singleton.1 hz];unfold apart;dsimp only;omega
    ·rfl
   obtain⟨i1,i2⟩:=qA (by unfold LotOk;omega) ys out at_ mis o2 hp2 h1 h2
   have e0:ov p (x.1,at_,x.2.1+x.2.2 - at_)=0:=by
    unfold ov;rw[if_pos hpf];dsimp only;omega
   show be (ys.foldl (fY x) (fY x (out,at_,mis) p)).1 _=(ys.foldl subL (subL (curL x at_) p)).foldl be out∧(ys.foldl (fY x) (fY x (out,at_,mis) p)).2.2=mis - (ov p _+OV ys _);rw[es,ec,e0];refine⟨?_,by rw[i2];omega⟩;have i1':=i1;rw[show List.foldl (fY x) (out,at_,mis) (p::ys)=List.foldl (fY x) (fY x (out,at_,mis) p) ys from rfl,es];exact i1'
  ·have es:fY x (out,at_,mis) p=(be out (x.1,at_,max p.2.1 at_ - at_),min (p.2.1+p.2.2) (x.2.1+x.2.2),mis - (min (p.2.1+p.2.2) (x.2.1+x.2.2) - max p.2.1 at_)):=if_neg c;obtain⟨i1,i2⟩:=qA (by unfold LotOk;omega) ys (be out (x.1,at_,max p.2.1 at_ - at_)) (min (p.2.1+p.2.2) (x.2.1+x.2.2)) (mis - (min (p.2.1+p.2.2) (x.2.1+x.2.2) - max p.2.1 at_)) o2 hp2 ac ac
   have ec:subL (curL x at_) p=(if at_<p.2.1 then[(x.1,at_,p.2.1 - at_)] else[])++curL x (min (p.2.1+p.2.2) (x.2.1+x.2.2)):=by
    unfold curL;rw[if_pos (show at_<x.2.1+x.2.2 by omega)];show subL [_] p=_;unfold subL;rw[mq,lX (by dsimp only;omega)];dsimp only;rw[hpf];congr 1;by_cases e:p.2.1+p.2.2<x.2.1+x.2.2
    ·rw[if_pos ac,if_pos ac,show min (p.2.1+p.2.2) (x.2.1+x.2.2)=p.2.1+p.2.2 by omega,show at_+(x.2.1+x.2.2 - at_) - p.2.1 - p.2.2=x.2.1+x.2.2 - (p.2.1+p.2.2) by omega]
    ·rw[if_neg ac,if_neg ac]
   have e0:ov p (x.1,at_,x.2.1+x.2.2 - at_)=min (p.2.1+p.2.2) (x.2.1+x.2.2) - max p.2.1 at_:=by
    unfold ov;rw[if_pos hpf];dsimp only;omega
   have e1:OV ys (x.1,at_,x.2.1+x.2.2 - at_)=OV ys (x.1,min (p.2.1+p.2.2) (x.2.1+x.2.2),x.2.1+x.2.2 - min (p.2.1+p.2.2) (x.2.1+x.2.2)):=by
    clear i1 i2 ho o2 hp es ec e0;revert o1 hp2;induction ys with
    | nil=>intro _ _;rfl
    | cons q ys ih =>
     intro o1 hp2;have h5:=ih (fun z hz=>o1 z (av _ hz)) (fun z hz=>hp2 z (av _ hz));have h6:=o1 q aw;obtain⟨h7,h8⟩:=hp2 q aw;unfold LotOk at h7;show ov q _+OV ys _=ov q _+OV ys _;rw[h5];congr 1;unfold ov;rw[if_pos h8,if_pos h8];dsimp only;omega
   have ei:ys.foldl subL (if at_<p.2.1 then[(x.1,at_,p.2.1 - at_)] else[])=(if at_<p.2.1 then[(x.1,at_,p.2.1 - at_)] else[]):=by
    refine DJ (fun q hq z hz=>?_);split at hz
    ·rw[List.mem_singleton.1 hz];have:=o1 q hq
     unfold apart;dsimp only;omega
    ·cases hz
   have ep:∀r:LL,((if at_<p.2.1 then[((x.1,at_,p.2.1 - at_):Lot)] else[])++r).foldl be out=r.foldl be (be out (x.1,at_,max p.2.1 at_ - at_)):=fun r=>by
    rw[cJ];by_cases e:at_<p.2.1
    ·rw[if_pos e,show max p.2.1 at_=p.2.1 by omega];rfl
    ·rw[if_neg e];show r.foldl be out=_;rw[show be out (x.1,at_,max p.2.1 at_ - at_)=out from if_pos (by dsimp only;omega)]
   rw[show List.foldl (fY x) (out,at_,mis) (p::ys)=List.foldl (fY x) (fY x (out,at_,mis) p) ys from rfl,es];show be _ _=(ys.foldl subL (subL (curL x at_) p)).foldl be out∧_=mis - (ov p _+OV ys _);rw[ec,Gf,ei,ep,e0,e1];exact⟨i1,by rw[i2];omega⟩
end
section
open Go.V
attribute [local irreducible] G GO GP GPW GPK Ev Ef EfR Ent CB GB V.Enters
theorem iG{L:LH}(x:Lot)(hx:LotW x):Tri ah 232 #[.agg (an x).toArray] L (fun v L'=>v=ab (x.2.1+x.2.2)∧L' = L):=by
 unfold LotW at hx;refine Tri.body (args:=[.agg (an x).toArray]) 8 Ie Tryz.func232 rfl rfl rfl (by simp) ?_;repeat first|refine aa ?_|intro
 exact KX.d7 ai ag ⟨rfl,rfl⟩
theorem lO{L:LH}(ad:OA)(cap n c:Nat)(xs:LL)(x:Lot)(hn:n=xs.length)(hcc:c=cap)(hl:xs.length≤100000000)(hxs:∀y∈xs,LotW y)(hx:LotW x) :
  Tri ah 240 #[.slice ad n c,ab x.1,ab x.2.1,ab x.2.2] (osl an 3 tLot ad cap xs::L) (fun v L'=>∃ad' cap',v=.slice ad' (be xs x).length cap'∧L' = osl an 3 tLot ad' cap' (be xs x)::L):=by
 subst hn hcc;refine Tri.body (args:=[.slice ad xs.length c,ab x.1,ab x.2.1,ab x.2.2]) 53 HX Tryz.func240 rfl rfl rfl (by simp) ?_;by_cases h0:x.2.2=0
 ·have e:be xs x=xs:=by unfold be;rw[if_pos h0]
  rw[e];repeat first|refine aa ?_|intro
  exact KX.d7 ai ag ⟨ad,c,rfl,rfl⟩
 by_cases h1:xs.length=0
 ·have e:be xs x=xs++[x]:=by unfold be;rw[if_neg h0,if_neg (fun h=>h.1 h1)]
  rw[e];repeat first|refine aa ?_|intro
  refine GO.ef (Ef.d8 (enc:=an) (e:=x) rfl rfl rfl rfl rfl (by rfl) (cx _) ac ac) ae ?_;rintro _ _⟨ad2,cap2,rfl,rfl⟩;repeat first|refine aa ?_|intro
  exact KX.d7 ai ag ⟨ad2,cap2,rfl,rfl⟩
 have hii:((xs.length:Int) - 1).toNat=xs.length - 1:=ac;have hlw:=hxs _ (aI (show xs.length - 1<xs.length by omega));have hlt:((xs.length:Int) - 1).toNat<xs.length:=ac;rw[←hii] at hlw;by_cases hf:xs[((xs.length:Int) - 1).toNat]!.1=x.1
 case neg =>
  have e:be xs x=xs++[x]:=by
   unfold be;rw[hii] at hf;rw[if_neg h0,if_neg (fun h=>hf (lcont_iff.1 h.2).1.symm)]
  rw[e];repeat first|refine aa ?_|intro
  refine GO.ef (Ef.d8 (enc:=an) (e:=x) rfl rfl rfl rfl rfl (by rfl) (cx _) ac ac) ae ?_;rintro _ _⟨ad2,cap2,rfl,rfl⟩;repeat first|refine aa ?_|intro
  exact KX.d7 ai ag ⟨ad2,cap2,rfl,rfl⟩
 repeat first|refine aa ?_|intro
 refine GO.ef (Ef.d7 (iG xs[((xs.length:Int) - 1).toNat]! hlw) rfl) ae ?_;rintro _ _⟨rfl,rfl⟩;by_cases hc:kB x xs[((xs.length:Int) - 1).toNat]!
 ·have hc2:=lcont_iff.1 hc;unfold LotW at hlw hx;repeat first|refine aa ?_|intro
  refine GO.efu (Ef.e8 (e:=((xs[((xs.length:Int) - 1).toNat]!.1,xs[((xs.length:Int) - 1).toNat]!.2.1,xs[((xs.length:Int) - 1).toNat]!.2.2+x.2.2):Lot)) rfl rfl (by rfl) rfl ac ae) ?_;rintro _ _ rfl
  have e:be xs x=xs.set ((xs.length:Int) - 1).toNat (xs[((xs.length:Int) - 1).toNat]!.1,xs[((xs.length:Int) - 1).toNat]!.2.1,xs[((xs.length:Int) - 1).toNat]!.2.2+x.2.2):=by
   unfold be;rw[hii] at hc ⊢;rw[if_neg h0,if_pos ⟨h1,hc⟩]
  rw[e];repeat first|refine aa ?_|intro
  exact KX.d7 ai ag ⟨ad,c,by rw[bg];rfl,rfl⟩
 ·have hne:¬xs[((xs.length:Int) - 1).toNat]!.2.1+xs[((xs.length:Int) - 1).toNat]!.2.2=x.2.1:=fun q=>hc (lcont_iff.2 ⟨hf.symm,q.symm⟩)
  have e:be xs x=xs++[x]:=by
   unfold be;rw[hii] at hc;rw[if_neg h0,if_neg (fun h=>hc h.2)]
  rw[e];repeat first|refine aa ?_|intro
  refine GO.ef (Ef.d8 (enc:=an) (e:=x) rfl rfl rfl rfl rfl (by rfl) (cx _) ac ac) ae ?_;rintro _ _⟨ad2,cap2,rfl,rfl⟩;repeat first|refine aa ?_|intro
  exact KX.d7 ai ag ⟨ad2,cap2,rfl,rfl⟩
abbrev yT:List Stp:=[.ev 0,.ev 1,.ev 2,.ev 3,.ev 4,.ev 5,.ev 6,.ev 7,.ev 8,.ef 9,.ev 10]
abbrev yS:List Stp:=[.ev 0,.ev 1,.ev 2,.ev 3,.ev 4,.ev 5,.ev 6,.ev 7,.ev 8,.ev 9,.ev 10,.ev 11,.ev 12,.ev 13,.ev 14,.ev 15,.ev 16,.ef 17,.ev 18]
theorem gU{φ ψ:Prop}(k:ψ)(h:Hid ψ→φ:=by intro k;(with_reducible apply G.d8);first|refine G.d7 (N:=46) (id:=4) yT mixed ap (Hid.out k)|refine G.d7 (N:=46) (id:=5) yS mixed ap (Hid.out k)):φ:=h ⟨k⟩
theorem ul{L:LH}(ad:OA)(n c:Nat)(l:LL)(ad2:OA)(n2 c2:Nat)(cs:List Int)[hr:Rds L ad Lot an 3 l][hr2:Rds L ad2 Int (encZ .i64) 1 cs](hn:n=l.length)(hn2:n2=cs.length)(hll:l.length≤4096)(hlc:cs.length=l.length)(hl:∀x∈l,LotW x)(hc:∀k,k<l.length→0≤cs[k]!∧cs[k]!≤l[k]!.2.2) :
  Tri ah 156 #[.slice ad n c,.slice ad2 n2 c2] L (fun v L'=>∃ad3 c3 ad4 c4,v=.tuple #[.slice ad3 (divF l (fun k=>cs[k]!) l.length).length c3,.slice ad4 (divR l (fun k=>cs[k]!) l.length).length c4]∧L' = osl an 3 tLot ad3 c3 (divF l (fun k=>cs[k]!) l.length)::osl an 3 tLot ad4 c4 (divR l (fun k=>cs[k]!) l.length)::L):=by
 subst hn hn2;generalize hf:(fun k=>cs[k]! : Nat→Int)=f;have hfk:∀k,cs[k]! = f k:=fun k=>by rw[←hf]
 refine Tri.body (args:=[.slice ad l.length c,.slice ad2 cs.length c2]) 46 Jr Tryz.func156 rfl rfl rfl (by simp) ?_;repeat first|refine aa ?_|intro _|refine gU ?_
 refine G.loop (α:=Nat×OA×Nat×OA×Nat) (fun g=>g.1≤l.length) (fun g=>[(1,.slice ad2 cs.length c2),(4,.slice g.2.1 (divF l f g.1).length g.2.2.1),(5,.slice g.2.2.2.1 (divR l f g.1).length g.2.2.2.2),(8,.slice ad l.length c),(9,ab l.length),(10,ab (g.1:Int))]) (fun g=>osl an 3 tLot g.2.1 g.2.2.1 (divF l f g.1)::osl an 3 tLot g.2.2.2.1 g.2.2.2.2 (divR l f g.1)::L) (fun g=>l.length - g.1) (0,none,0,none,0) (ao _) aj ((Ent.d8 an 3 tLot).trans (Ent.d8 an 3 tLot)) ?_;rintro⟨i,a3,c3,a4,c4⟩ hi;dsimp only at hi ⊢;by_cases hlt:i<l.length
 case neg =>
  obtain rfl:i=l.length:=ac;repeat first|refine aa ?_|intro _|refine gU ?_
  exact KX.d7 ai (Ent.refl _) ⟨a3,c3,a4,c4,rfl,rfl⟩
 have hii:(i:Int).toNat=i:=aA i;have hlt' : (i:Int).toNat<l.length:=ac;have hltc:(i:Int).toNat<cs.length:=ac;obtain⟨b1,b2⟩:=hc i hlt;rw[hfk] at b1 b2;have hxw:=hl _ (aI hlt);have hx:=hxw;unfold LotW at hx;repeat first|refine aa ?_|intro _|refine gU ?_
 have hlen:=jF l f i;have hwF:∀y∈divF l f i,LotW y:=(uX hl (fun k hk=>by have:=hc k hk;rw[hfk] at this;exact this) i hi).1;have hwR:∀y∈divR l f i,LotW y:=(uX hl (fun k hk=>by have:=hc k hk;rw[hfk] at this;exact this) i hi).2
 have eF:be (divF l f i) (l[(i:Int).toNat]!.1,l[(i:Int).toNat]!.2.1,cs[(i:Int).toNat]!)=divF l f (i+1):=by
  rw[pq,hii,hfk];rfl
 have eR:be (divR l f i) (l[(i:Int).toNat]!.1,l[(i:Int).toNat]!.2.1+cs[(i:Int).toNat]!,l[(i:Int).toNat]!.2.2 - cs[(i:Int).toNat]!)=divR l f (i+1):=by
  rw[mJ,hii,hfk];rfl
 have hx' : LotW l[(i:Int).toNat]!:=by rw[hii];exact hxw
 have hb' : 0≤cs[(i:Int).toNat]!∧cs[(i:Int).toNat]!≤l[(i:Int).toNat]!.2.2:=by rw[hii];exact hc i hlt
 unfold LotW at hx';(first|refine GPW.ef (Ef.call (lO (L:=[]) a3 c3 _ _ (divF l f i) (l[(i:Int).toNat]!.1,l[(i:Int).toNat]!.2.1,cs[(i:Int).toNat]!) rfl rfl ac hwF (by unfold LotW;dsimp only;omega)) rfl (by repeat (first|exact Ent.refl _|apply Ent.take))) ae ?_);rintro _ _⟨_,⟨a5,c5,rfl,rfl⟩,hL⟩;simp only[ax,aq] at hL;subst hL;rw[eF];repeat first|refine aa ?_|intro _|refine gU ?_
 (first|refine GPW.ef (Ef.call (lO (L:=[]) a4 c4 _ _ (divR l f i) (l[(i:Int).toNat]!.1,l[(i:Int).toNat]!.2.1+cs[(i:Int).toNat]!,l[(i:Int).toNat]!.2.2 - cs[(i:Int).toNat]!) rfl rfl ac hwR (by unfold LotW;dsimp only;omega)) rfl (by repeat (first|exact Ent.refl _|apply Ent.take))) ae ?_);rintro _ _⟨_,⟨a6,c6,rfl,rfl⟩,hL⟩;simp only[ax,aq] at hL;subst hL;rw[eR];repeat first|refine aa ?_|intro _|refine gU ?_
 refine⟨(i+1,a5,c5,a6,c6),by dsimp only;omega,by dsimp only;omega,?_,by exact ag⟩;dsimp only;rw[aP i];exact aj
theorem yV{L:LH}(ad:OA)(n c:Nat)(l:LL)(m:Int)[hr:Rds L ad Lot an 3 l](hn:n=l.length)(hll:l.length≤4096)(hl:∀x∈l,LotW x)(h0:0≤m)(h1:m≤1099511627776) :
  Tri ah 154 #[.slice ad n c,ab m] L (fun v L'=>∃ad' cap',v=.slice ad' l.length cap'∧L' = osl (encZ .i64) 1 tInt ad' cap' ((List.range l.length).map (fuC l m))::L):=by
 subst hn;refine Tri.body (args:=[.slice ad l.length c,ab m]) 33 Jt Tryz.func154 rfl rfl rfl (by simp) ?_;repeat first|refine aa ?_|intro
 refine GO.ef (Ef.makeSlice (encZ .i64) 0 rfl rfl rfl ac ac ac) ae ?_;rintro _ _⟨bp,rfl,rfl⟩;rw[aA,←jE l.length (fuC l m)];repeat first|refine aa ?_|intro
 refine G.loop (α:=Nat) (fun i=>i≤l.length) (fun i=>[(1,ab (fuR l m i)),(5,.slice (some ⟨bp,0,none⟩) l.length l.length),(11,.slice ad l.length c),(12,ab l.length),(13,ab (i:Int))]) (fun i=>osl (encZ .i64) 1 tInt (some ⟨bp,0,none⟩) l.length (fM l.length i (fuC l m))::L) (fun i=>l.length - i) 0 (ao _) aj (Ent.refl _) ?_;intro i hi;have hfl:=jy l.length i (fuC l m);by_cases hlt:i<l.length
 case neg =>
  obtain rfl:i=l.length:=ac;rw[ko];repeat first|refine aa ?_|intro
  exact KX.d7 ai (Ent.refl _) ⟨some ⟨bp,0,none⟩,l.length,rfl,rfl⟩
 have hii:(i:Int).toNat=i:=aA i;have hlt' : (i:Int).toNat<l.length:=ac;have hx:=hl _ (aI hlt);unfold LotW at hx;obtain⟨b1,b2⟩:=nq h0 hl i hi;obtain⟨b3,b4⟩:=nq h0 hl (i+1) hlt;have e1:fuR l m (i+1)=fuR l m i - fuC l m i:=rfl;have e2:(fM l.length i (fuC l m)).set i (fuC l m i)=fM l.length (i+1) (fuC l m):=kn (fuC l m) hlt
 have e3:(fM l.length (i+1) (fuC l m))[i]! = fuC l m i:=by
  rw[←e2,getElem!_of (by rw[bg];omega),List.getElem_set_self]
 have hfl2:=jy l.length (i+1) (fuC l m);have hq:min (fuR l m i) l[(i:Int).toNat]!.2.2=fuC l m i:=by rw[hii];rfl
 have hfl3:((fM l.length i (fuC l m)).set (i:Int).toNat (min (fuR l m i) l[(i:Int).toNat]!.2.2)).length=l.length:=by rw[bg];exact hfl
 have e4:(fM l.length i (fuC l m)).set (i:Int).toNat (min (fuR l m i) l[(i:Int).toNat]!.2.2)=fM l.length (i+1) (fuC l m):=by rw[hq,hii,e2]
 have e5:((fM l.length i (fuC l m)).set (i:Int).toNat (min (fuR l m i) l[(i:Int).toNat]!.2.2))[(i:Int).toNat]! = fuC l m i:=by rw[e4,hii,e3]
 repeat first|refine aa ?_|intro
 refine⟨i+1,ac,ac,?_,by rw[e4];exact ag⟩;rw[e1,aP i,←e5];exact aj
