/- Lemmas. -/
import Derived.Test.YtommnllbflbdmaaGreatDoorAbc
set_option linter.all false
set_option maxHeartbeats 1000000
namespace Go.Proofs.YtommnllbflbdmaaGreatDoor
section
open Go.V
def qf:∀{r out:LL},∀z∈r.foldl aY out,∃y∈out++r,z.1=y.1
 | [],out,z,hz=>⟨z,bQ _ hz,rfl⟩
 | x::r,out,z,hz=>by
  obtain⟨y,hy,e⟩:=qf (r:=r) (out:=aY out x) z hz;rcases List.mem_append.1 hy with hy|hy
  ·have h:∀w∈aY out x,∃v∈out++x::r,w.1=v.1:=by
    intro w hw;unfold aY at hw;split at hw
    ·exact⟨w,bQ _ hw,rfl⟩
    ·split at hw
     ·rename_i hc;rcases ee hw with hw|rfl
      ·exact⟨w,bQ _ hw,rfl⟩
      ·exact⟨_,bQ _ (aI (ab:out.length - 1<out.length)),rfl⟩
     ·rcases List.mem_append.1 hw with hw|hw
      ·exact⟨w,bQ _ hw,rfl⟩
      ·exact⟨w,bz _ (by rw[List.mem_singleton.1 hw];exact aq),rfl⟩
   obtain⟨v,hv,e2⟩:=h y hy;exact⟨v,hv,e.trans e2⟩
  ·exact⟨y,bz _ (au _ hy),e⟩
def nM:∀(r out:LL),r.foldl aY out=(r.filter (fun x=>decide (x.2.2≠0))).foldl aY out
 | [],_=>rfl
 | x::r,out=>by
  by_cases h:x.2.2=0
  ·rw[cG (by simpa using h)];have e:aY out x=out:=if_pos h;show r.foldl aY (aY out x)=_;rw[e];exact nM r out
  ·rw[cF (by simpa using h)];exact nM r (aY out x)
def ll:∀{r out:LL},Apart (out++r)→(∀z∈out++r,1≤z.2.2)→Apart (r.foldl aY out)
 | [],out,h,_=>by rwa [aQ] at h
 | x::r,out,h,hn=>by
  have hx:=hn x (bz _ aq);have a8:out++x::r=(out++[x])++r:=by rw[aH];rfl
  by_cases hc:out.length≠0∧kD x out[out.length - 1]!
  case neg =>
   have e:aY out x=out++[x]:=by unfold aY;rw[if_neg ab,if_neg hc]
   show Apart (r.foldl aY (aY out x));rw[e];rw[a8] at h hn;exact ll h hn
  obtain⟨hl,hk⟩:=hc;have e:aY out x=out.set (out.length - 1) (out[out.length - 1]!.1,out[out.length - 1]!.2.1,out[out.length - 1]!.2.2+x.2.2):=by unfold aY;rw[if_neg ab,if_pos ⟨hl,hk⟩]
  rcases List.eq_nil_or_concat out with rfl|⟨a0,b,rfl⟩
  ·exact absurd rfl hl
  rw[List.concat_eq_append] at *
  have eb:(a0++[b])[(a0++[b]).length - 1]! = b:=by
   rw[getElem!_of bZ];simp
  rw[eb] at e hk
  have es:(a0++[b]).set ((a0++[b]).length - 1) (b.1,b.2.1,b.2.2+x.2.2)=a0++[(b.1,b.2.1,b.2.2+x.2.2)]:=by
   rw[ay,aJ,Nat.add_sub_cancel,List.set_append_right _ _ (aB _)];simp
  rw[es] at e;show Apart (r.foldl aY (aY (a0++[b]) x));rw[e];have a9:=lcont_iff.1 hk;have hb:=hn b (bQ _ (bz _ (cW _)));have e3:(a0++[b])++x::r=a0++(b::x::r):=by rw[aH];rfl
  rw[e3] at h hn;obtain⟨a1,a2,a3⟩:=List.pairwise_append.1 h;obtain⟨a4,a5⟩:=List.pairwise_cons.1 a2;obtain⟨a6,a7⟩:=List.pairwise_cons.1 a5;refine ll ?_ ?_
  ·rw[show(a0++[(b.1,b.2.1,b.2.2+x.2.2)])++r=a0++((b.1,b.2.1,b.2.2+x.2.2)::r) by rw[aH];rfl];refine List.pairwise_append.2 ⟨a1,List.pairwise_cons.2 ⟨fun z hz=>?_,a7⟩,fun z hz w hw=>?_⟩
   ·have g1:=a4 z (au _ hz);have g2:=a6 z hz;have g3:=hn z (bz _ (au _ (au _ hz)));unfold apart at g1 g2 ⊢;dsimp only;omega
   ·rcases List.mem_cons.1 hw with rfl|hw
    ·have g1:=a3 z hz b aq;have g2:=a3 z hz x (au _ aq);have g3:=hn z (bQ _ hz);unfold apart at g1 g2 ⊢;dsimp only;omega
    ·exact a3 z hz w (au _ (au _ hw))
  ·intro z hz;rcases List.mem_append.1 hz with hz|hz
   ·rcases List.mem_append.1 hz with hz|hz
    ·exact hn z (bQ _ hz)
    ·rw[List.mem_singleton.1 hz];dsimp only;omega
   ·exact hn z (bz _ (au _ (au _ hz)))
def pg{α β γ:Type}(f:γ→β→γ)(g:α→List β):∀(s:List α) (out:γ),(s.flatMap g).foldl f out=s.foldl (fun o y=>(g y).foldl f o) out
 | [],_=>rfl
 | y::s,out=>by
  rw[bB,cv];exact pg f g s _
def lM:∀(set l:LL),set.foldl subL l=l.flatMap (fun y=>set.foldl subL [y])
 | [],l=>by
  show l=l.flatMap (fun y=>[y]);induction l with
  | nil=>rfl
  | cons y l ih=>rw[bB,←ih];rfl
 | x::set,l=>by
  have e1:∀l,(x::set).foldl subL l=(subL l x).flatMap (fun y=>set.foldl subL [y]):=fun l=>lM set (subL l x);rw[e1];induction l with
  | nil=>rfl
  | cons y l ih =>
   have e2:subL (y::l) x=subL [y] x++subL l x:=by
    unfold subL;rw[bB,bB];simp
   rw[e2,dd,ih,bB];congr 1;exact(e1 [y]).symm
def oB(s set:LL):dP s set=(set.foldl subL s).foldl aY []:=by
 rw[lM,pg];rfl
def Gg:∀{set l:LL},(∀x∈set,LotOk x)→(∀y∈l,LotOk y)→Apart l→(∀y∈set.foldl subL l,LotOk y∧∃w∈l,y.1=w.1)∧Apart (set.foldl subL l)∧(set.foldl subL l).length≤l.length+set.length
 | [],l,_,hl,ha=>⟨fun y hy=>⟨hl y hy,y,hy,rfl⟩,ha,aB _⟩
 | x::set,l,hs,hl,ha=>by
  have hx:=hs x aq;obtain⟨h1,h2⟩:=mE hx hl ha;obtain⟨i1,i2,i3⟩:=Gg (set:=set) (l:=subL l x) (fun z hz=>hs z (au _ hz)) (nY hx hl) h1;refine⟨fun y hy=>?_,i2,?_⟩
  ·obtain⟨g1,w,hw,e⟩:=i1 y hy;obtain⟨v,hv,_,e2,_⟩:=mN hx hl hw;exact⟨g1,v,hv,e.trans e2⟩
  ·rw[bh];show(set.foldl subL (subL l x)).length≤_;omega
structure StkG (k:Nat) (id:Int) (l:LL):Prop where
 len:l.length≤k
 ok:∀x∈l,LotOk x∧x.1<id
 apt:Apart l
def StkG.lots{k:Nat}{id:Int}{l:LL}(h:StkG k id l):∀x∈l,LotOk x:=fun x hx=>(h.ok x hx).1
def StkG.mono{k k' : Nat}{id a0 : Int}{l:LL}(h:StkG k id l)(hk:k≤k')(hi:id≤a0):StkG k' a0 l:=⟨cK h.len hk,fun x hx=>⟨(h.ok x hx).1,by have:=(h.ok x hx).2;omega⟩,h.apt⟩
def uh{k:Nat}{id:Int}{l ps:LL}(h:StkG k id l)(hp:∀x∈ps,LotOk x):StkG (k+ps.length) id (dP l ps):=by
 obtain⟨c1,c2,c3⟩:=Gg hp h.lots h.apt;have hl:=h.len;rw[oB];refine⟨?_,fun x hx=>?_,ll c2 (fun z hz=>(c1 z hz).1.2.2.2.1)⟩
 ·have:=jd (ps.foldl subL l) []
  simp only[cQ] at this;omega
 ·obtain⟨y,hy,e⟩:=qf (r:=ps.foldl subL l) (out:=[]) x hx;rw[an] at hy;obtain⟨_,w,hw,e2⟩:=c1 y hy;have:=(h.ok w hw).2
  refine⟨lJ bZ (fun z hz=>(c1 z hz).1.w) x hx,?_⟩;rw[e,e2];exact this
def BF{mixed:Bool}{k:Nat}{id n:Int}{l:LL}(h:StkG k id l)(hk:l.length≤4096)(h0:0≤n)(h1:n≤lsum l):StkG k id (eN mixed l n):=by
 have hb:=nX mixed l n h.lots h0 h1;have a0:=(tU h.lots hb).2;refine⟨cK (kq _ _ _).2 h.len,fun x hx=>⟨a0 x hx,?_⟩,?_⟩
 ·obtain⟨y,hy,e⟩:=qf (r:=(List.range l.length).map (pcR l (tkC mixed l n))) (out:=[]) x hx;rw[an] at hy;obtain⟨j,hj,rfl⟩:=List.mem_map.1 hy;have hj:=List.mem_range.1 hj;have:=(h.ok _ (aI hj)).2
  rw[e];exact this
 ·show Apart (((List.range l.length).map (pcR l (tkC mixed l n))).foldl aY []);rw[nM]
  have a1:Apart ((List.range l.length).map (pcR l (tkC mixed l n))):=by
   unfold Apart;rw[List.pairwise_map];refine List.Pairwise.imp_of_mem ?_ List.pairwise_lt_range;intro i j hi hj a2;have hi:=List.mem_range.1 hi;have hj:=List.mem_range.1 hj;have ha:=List.pairwise_iff_getElem.1 h.apt i j hi hj a2;rw[←getElem!_of hi,←getElem!_of hj] at ha;have b1:=hb i hi;have b2:=hb j hj;unfold apart at ha ⊢;simp only[pcR,pc1,pc2];omega
  refine ll ?_ ?_
  ·rw[an];exact a1.filter _
  ·intro z hz;rw[an] at hz;obtain⟨g1,g2⟩:=List.mem_filter.1 hz;obtain⟨j,hj,rfl⟩:=List.mem_map.1 g1;have hj:=List.mem_range.1 hj;have b1:=hb j hj;have g3:(pcR l (tkC mixed l n) j).2.2≠0:=by simpa using g2
   simp only[pcR,pc1,pc2] at g3 ⊢;omega
def Jd{k:Nat}{id n:Int}{l:LL}(h:StkG k id l)(a0:0≤id)(hn:1≤n∧n≤1099511627776):StkG (k+1) (id+1) (aY l (id,0,n)):=by
 rw[oX h.lots hn.1];have hl:=h.len;refine⟨by rw[ay,aJ];omega,fun x hx=>?_,List.pairwise_append.2 ⟨h.apt,bE _ _,fun y hy w hw=>?_⟩⟩
 ·rcases List.mem_append.1 hx with hx|hx
  ·have:=h.ok x hx
   exact⟨this.1,ab⟩
  ·rw[List.mem_singleton.1 hx];refine⟨⟨a0,bg _,by dsimp only;omega,hn.1,by dsimp only;omega⟩,by dsimp only;omega⟩
 ·rw[List.mem_singleton.1 hw];have:=(h.ok y hy).2
  unfold apart;dsimp only;omega
def gPts(mix:Int→Bool)(s:StM)(W:Wk)(m:MvM):LL:=if m.frm=0 then(if s.kind=5∨s.kind=9 then m.parts else[]) else if m.parts=[] then gS (mix m.item) (W.stk m.frm m.item) m.n else m.parts
def lu(mix:Int→Bool)(W:Wk)(m:MvM):LL:=if m.parts=[] then eN (mix m.item) (W.stk m.frm m.item) m.n else dP (W.stk m.frm m.item) m.parts
def gStk(mix:Int→Bool)(W:Wk)(m:MvM):Int→Int→LL:=if m.frm=0 then W.stk else upd2 W.stk m.frm m.item (lu mix W m)
def gErr(sh:Int)(fl:List FlM)(s:StM)(W:Wk)(m:MvM):Int :=
 if m.frm=0 then(if s.kind=5 then arrG sh fl m.parts else if s.kind=9 then revG fl m.item m.parts else 0)
 else if m.parts=[] then(if lsum (W.stk m.frm m.item)<m.n then 10 else 0) else if fF m.parts (W.stk m.frm m.item) then 0 else 10
def eY(sh:Int)(nf:Nat)(mix:Int→Bool)(s:StM)(W:Wk)(m:MvM):FlM:=⟨cB sh nf W,s.id,s.kind,s.tick,s.actor,m.frm,m.to,m.item,m.n,gPts mix s W m,cX s W m⟩
def cm(sh:Int)(fl:List FlM)(mix:Int→Bool)(s:StM)(W:Wk)(m:MvM):Int×Wk :=
 if gErr sh (fl++W.flows) s W m≠0 then(gErr sh (fl++W.flows) s W m,W)
 else if cq W m>1099511627776 then(4,W)
 else if m.to=0 then(0,⟨gStk mix W m,upd W.tot m.item (cq W m),W.flows++[eY sh fl.length mix s W m],W.sunk++[cB sh fl.length W]⟩)
 else if 4096≤(gStk mix W m m.to m.item).length then(4,W)
 else(0,⟨upd2 (gStk mix W m) m.to m.item (aY (gStk mix W m m.to m.item) (cB sh fl.length W,0,m.n)),upd W.tot m.item (cq W m),W.flows++[eY sh fl.length mix s W m],W.sunk⟩)
def FlG(fl:List FlM):Prop:=∀f∈fl,(∀x∈f.parts,LotOk x)∧f.parts.length≤2047
structure WkG (sh:Int) (fl:List FlM) (k:Nat) (W:Wk):Prop where
 stk:∀a i,StkG k (cB sh fl.length W) (W.stk a i)
 tot:∀i,-(((fl.length:Int)+W.flows.length)*1099511627776)≤W.tot i∧W.tot i≤1099511627776
 sunk:W.sunk.length≤W.flows.length
 flows:FlG W.flows
structure MvG (m:MvM):Prop where
 n:1≤m.n∧m.n≤1099511627776
 ne:m.frm≠m.to
 parts:m.parts=[]∨om m.parts m.n
def MvG.lots{m:MvM}(h:MvG m):∀x∈m.parts,LotOk x:=fun x hx=>by
 rcases h.parts with q|q
 ·rw[q] at hx;cases hx
 ·exact q.1.1 x hx
def qv{sh:Int}{fl:List FlM}{mix:Int→Bool}{s:StM}{W:Wk}{k:Nat}{m:MvM}(h:WkG sh fl k W)(hm:MvG m)(hk:k≤2000)(he:gErr sh (fl++W.flows) s W m=0)(a i:Int):StkG (k+m.parts.length) (cB sh fl.length W) (gStk mix W m a i):=by
 unfold gStk;unfold gErr at he;by_cases h0:m.frm=0
 ·rw[if_pos h0];exact(h.stk a i).mono (dZ _ _) (bg _)
 rw[if_neg h0] at he ⊢;unfold upd2;by_cases ha:a=m.frm∧i=m.item
 case neg =>
  rw[if_neg ha];exact(h.stk a i).mono (dZ _ _) (bg _)
 rw[if_pos ha];have hs:=h.stk m.frm m.item;have hl:=hs.len;have hn:=hm.n;unfold lu;by_cases hp:m.parts=[]
 ·rw[if_pos hp] at he ⊢;by_cases hq:lsum (W.stk m.frm m.item)<m.n
  ·rw[if_pos hq] at he;exact absurd he ag
  ·exact(BF hs ab ab ab).mono (dZ _ _) (bg _)
 ·rw[if_neg hp];exact uh hs hm.lots
def FO{sh:Int}{fl:List FlM}{mix:Int→Bool}{s:StM}{W:Wk}{k:Nat}{m:MvM}(h:WkG sh fl k W)(hm:MvG m)(hk:k+m.parts.length≤2000)(he:gErr sh (fl++W.flows) s W m=0):(∀x∈gPts mix s W m,LotOk x)∧(gPts mix s W m).length≤2047:=by
 have hs:=h.stk m.frm m.item;have hl:=hs.len;have hn:=hm.n;unfold gErr at he;unfold gPts;by_cases h0:m.frm=0
 ·rw[if_pos h0];split
  ·exact⟨hm.lots,ab⟩
  ·exact⟨(fun x hx=>by cases hx),aw _⟩
 rw[if_neg h0] at he ⊢;by_cases hp:m.parts=[]
 ·rw[if_pos hp] at he ⊢;by_cases hq:lsum (W.stk m.frm m.item)<m.n
  ·rw[if_pos hq] at he;exact absurd he ag
  ·exact⟨(tU hs.lots (nX _ _ _ hs.lots ab ab)).1,cK (kq _ _ _).1 ab⟩
 ·rw[if_neg hp];exact⟨hm.lots,ab⟩
def nh{sh:Int}{fl:List FlM}{mix:Int→Bool}{s:StM}{W:Wk}{k:Nat}{m:MvM}(a5:0≤sh)(h:WkG sh fl k W)(hm:MvG m)(hk:k+m.parts.length≤2000)(he:(cm sh fl mix s W m).1=0):WkG sh fl (k+m.parts.length+1) (cm sh fl mix s W m).2∧(cm sh fl mix s W m).2.flows=W.flows++[eY sh fl.length mix s W m]:=by
 unfold cm at he ⊢;by_cases h1:gErr sh (fl++W.flows) s W m≠0
 ·rw[if_pos h1] at he;exact absurd he h1
 rw[if_neg h1] at he ⊢;have a4 : gErr sh (fl++W.flows) s W m=0:=Classical.not_not.1 h1;by_cases h2:cq W m>1099511627776
 ·rw[if_pos h2] at he;exact absurd (show(4:Int)=0 from he) ag
 rw[if_neg h2] at he ⊢;have hS:=fun a i=>qv (mix:=mix) h hm ab a4 a i;have hP:=FO (mix:=mix) h hm hk a4;have hn:=hm.n
 have a2:FlG (W.flows++[eY sh fl.length mix s W m]):=fun f hf=>by
  rcases List.mem_append.1 hf with hf|hf
  ·exact h.flows f hf
  ·rw[List.mem_singleton.1 hf];exact hP
 have a3:∀{W2:Wk},W2.flows=W.flows++[eY sh fl.length mix s W m]→cB sh fl.length W2=cB sh fl.length W+1:=fun {W2} e=>by
  unfold cB;rw[e,ay,aJ];omega
 have a1:0≤cB sh fl.length W:=by unfold cB;omega
 have a0:∀i,-(((fl.length:Int)+(W.flows++[eY sh fl.length mix s W m]).length)*1099511627776)≤upd W.tot m.item (cq W m) i∧upd W.tot m.item (cq W m) i≤1099511627776:=fun i=>by
  rw[ay,aJ];unfold upd;have t1:=h.tot i;have t2:=h.tot m.item;split
  ·refine⟨?_,ab⟩;unfold cq;split<;>split<;>omega
  ·omega
 by_cases h3:m.to=0
 ·rw[if_pos h3];refine⟨⟨fun a i=>?_,a0,?_,a2⟩,rfl⟩
  ·rw[a3 rfl];exact(hS a i).mono ab ab
  ·have:=h.sunk
   simp only[ay,aJ];omega
 rw[if_neg h3] at he ⊢;by_cases h4:4096≤(gStk mix W m m.to m.item).length
 ·rw[if_pos h4] at he;exact absurd (show(4:Int)=0 from he) ag
 rw[if_neg h4];refine⟨⟨fun a i=>?_,a0,?_,a2⟩,rfl⟩
 ·rw[a3 rfl];dsimp only;unfold upd2;split
  ·exact Jd (hS m.to m.item) a1 hn
  ·exact(hS a i).mono ab ab
 ·have:=h.sunk
  simp only[ay,aJ];omega
def kO{x y:Lot}(h:y.1≠x.1∨x.2.1+x.2.2≤y.2.1∨y.2.1+y.2.2≤x.2.1):subS x y=[y]:=if_pos h
def jZ{x y:Lot}(h:¬(y.1≠x.1∨x.2.1+x.2.2≤y.2.1∨y.2.1+y.2.2≤x.2.1)):subS x y=(if y.2.1<x.2.1 then[(x.1,y.2.1,x.2.1 - y.2.1)] else[])++(if x.2.1+x.2.2<y.2.1+y.2.2 then[(x.1,x.2.1+x.2.2,y.2.1+y.2.2 - x.2.1 - x.2.2)] else[]):=if_neg h
def re{α β:Type}(c:Prop)[Decidable c](a:α)(g:α→List β):(if c then[a] else[]).flatMap g=if c then g a else[]:=by
 split
 ·simp
 ·rfl
def nE{x:Lot}{l:LL}(h:∀z∈l,apart z x):l.flatMap (subS x)=l:=kP h
def kL{α β:Type}(a:α)(g:α→List β):[a].flatMap g=g a:=by simp
def ta{x y z:Lot}(hx:LotOk x)(hy:LotOk y)(hz:LotOk z)(a0:x.1=z.1)(a1:y.1=z.1)(h:x.2.1+x.2.2≤y.2.1):(subS x z).flatMap (subS y)=(subS y z).flatMap (subS x):=by
 by_cases c1:x.2.1+x.2.2≤z.2.1∨z.2.1+z.2.2≤x.2.1
 ·rw[kO (x:=x) (y:=z) (.inr c1),kL,nE];intro w hw;obtain⟨_,_,h2,h3⟩:=lC hy hz hw;unfold apart;omega
 by_cases c2:y.2.1+y.2.2≤z.2.1∨z.2.1+z.2.2≤y.2.1
 ·rw[kO (x:=y) (y:=z) (.inr c2),kL,nE];intro w hw;obtain⟨_,_,h2,h3⟩:=lC hx hz hw;unfold apart;omega
 obtain⟨f,a,n⟩:=x;obtain⟨g,c,m⟩:=y;obtain⟨q,s,k⟩:=z;unfold LotOk at hx hy hz;dsimp only at *;obtain rfl:=a0;obtain rfl:=a1;rw[jZ fm,jZ fm];dsimp only;rw[dd,dd,re,re,re,re];rw[if_pos (ab:a+n<s+k),if_pos (ab:s<c)];rw[jZ (x:=(g,c,m)) (y:=(g,a+n,s+k - a - n)) fm,jZ (x:=(g,a,n)) (y:=(g,s,c - s)) fm];rw[kO (x:=(g,a,n)) (y:=(g,c+m,s+k - c - m)) fm,kO (x:=(g,c,m)) (y:=(g,s,a - s)) fm];dsimp only;rw[aH];congr 1;congr 1
 ·by_cases e:a+n<c
  ·rw[if_pos e,if_pos ab,show s+(c - s) - a - n=c - (a+n) by omega]
  ·rw[if_neg e,if_neg ab]
 ·by_cases e:c+m<s+k
  ·rw[if_pos e,if_pos ab,show a+n+(s+k - a - n) - c - m=s+k - c - m by omega]
  ·rw[if_neg e,if_neg ab]
def ER{x y z:Lot}(hx:LotOk x)(hy:LotOk y)(hz:LotOk z)(h:apart x y):(subS x z).flatMap (subS y)=(subS y z).flatMap (subS x):=by
 by_cases f1:x.1=z.1
 case neg =>
  rw[kO (x:=x) (y:=z) (.inl (fun e=>f1 e.symm)),kL,nE];intro w hw;obtain⟨_,e,_⟩:=lC hy hz hw;exact .inl (fun q=>f1 (q.symm.trans e))
 by_cases f2:y.1=z.1
 case neg =>
  rw[kO (x:=y) (y:=z) (.inl (fun e=>f2 e.symm)),kL,nE];intro w hw;obtain⟨_,e,_⟩:=lC hx hz hw;exact .inl (fun q=>f2 (q.symm.trans e))
 rcases h with h|h|h
 ·exact absurd (f1.trans f2.symm) h
 ·exact ta hx hy hz f1 f2 h
 ·exact(ta hy hx hz f2 f1 h).symm
def qK(x y:Lot):∀l:LL,subL (subL l x) y=l.flatMap (fun z=>(subS x z).flatMap (subS y))
 | []=>rfl
 | z::l=>by
  have ih:=qK x y l;unfold subL at ih ⊢;rw[bB,dd,ih,bB]
def vH{α β:Type}{g h:α→List β}:∀{l:List α},(∀z∈l,g z=h z)→l.flatMap g=l.flatMap h
 | [],_=>rfl
 | z::l,e=>by
  rw[bB,bB,e z aq,vH (fun y hy=>e y (au _ hy))]
def ES{x y:Lot}{l:LL}(hx:LotOk x)(hy:LotOk y)(hl:∀z∈l,LotOk z)(h:apart x y):subL (subL l x) y=subL (subL l y) x:=by
 rw[qK,qK];exact vH (fun z hz=>ER hx hy (hl z hz) h)
def Ht{ps qs:LL}(p:ps.Perm qs):∀{l:LL},(∀x∈ps,LotOk x)→Apart ps→(∀y∈l,LotOk y)→ps.foldl subL l=qs.foldl subL l:=by
 induction p with
 | nil=>intro l _ _ _;rfl
 | cons x p ih =>
  intro l h1 h2 h3;have hx:=h1 x aq;exact ih (fun y hy=>h1 y (au _ hy)) (List.pairwise_cons.1 h2).2 (nY hx h3)
 | swap x y l' =>
  intro l h1 h2 h3;have hy:=h1 y aq;have hx:=h1 x (au _ aq);have ha:=(List.pairwise_cons.1 h2).1 x aq;show l'.foldl subL (subL (subL l y) x)=l'.foldl subL (subL (subL l x) y);rw[ES hy hx h3 ha]
 | trans p1 p2 ih1 ih2 =>
  intro l h1 h2 h3;rw[ih1 h1 h2 h3];refine ih2 (fun x hx=>h1 x (p1.mem_iff.2 hx)) ?_ h3;exact(p1.pairwise_iff (fun {a b} q=>by unfold apart at *;omega)).1 h2
end
section
open Go.V
attribute [local irreducible] G GO GP GPW GPK Ev Ef EfR Ent CB GB V.Enters
abbrev Hd:=Int×Int×Int
def fj(h:Int×Int×Int):LV:=[ac h.1,ac h.2.1,ac h.2.2]
abbrev Fm:=ay5 [.ev 8]
def Ru{φ ψ:Prop}(k:ψ)(h:Hid ψ→φ:=by intro k;(repeat (first|refine aa ?_|intro zzz|refine G.dr 26 6 Fm ?_));(repeat revert zzz);exact Hid.out k):φ:=h ⟨k⟩
def zb{L:LH}(a0 ad2:OA)(n1 n2 c1 c2:Nat)(xs ys:List Hd)[Rds L a0 Hd fj 3 xs][Rds L ad2 Hd fj 3 ys](h1:n1=xs.length)(h2:n2=ys.length)(hl:xs.length≤1000000000) :
  Tri ai 22 #[ah a0 n1 c1,ah ad2 n2 c2] L (fun v L'=>v=.bool (dB (xs=ys))∧L' = L):=by
 subst h1 h2;refine Tri.bd ?_;by_cases he:xs.length=ys.length
 case neg =>
  rw[aG (fun h:xs=ys=>he (by rw[h]))];refine Ru ?_;intros;exact KX.en ⟨rfl,rfl⟩
 refine Ru ?_;intros;refine G.loop (α:=Nat) (fun i=>i≤xs.length∧xs.take i=ys.take i) (fun i=>[(0,ah a0 xs.length c1),(1,ah ad2 ys.length c2),(5,ac (i:Int))]) (fun _=>L) (fun i=>xs.length - i) 0 ⟨aw _,by simp⟩ av (Ent.refl _) ?_;rintro i ⟨hi,ht⟩;by_cases a4:i<xs.length
 case neg =>
  have e:xs=ys:=by
   rw[aF ab,aF ab] at ht;exact ht
  rw[aS e];refine Ru ?_;intros;exact KX.en ⟨rfl,rfl⟩
 have a5:(i:Int).toNat=i:=ab;obtain⟨x,hx⟩:∃x,xs[i]! = x:=⟨_,rfl⟩;obtain⟨y,hy⟩:∃y,ys[i]! = y:=⟨_,rfl⟩;have a7:xs[(i:Int).toNat]! = x:=by rw[a5];exact hx
 have a6:ys[(i:Int).toNat]! = y:=by rw[a5];exact hy
 refine Ru ?_;intros;rw[a7,a6];refine GPW.evP (Ev.o9 (xs:=[x.1,x.2.1,x.2.2]) (ys:=[y.1,y.2.1,y.2.2]) (cs:=fj x) (ds:=fj y) (hc:=⟨rfl⟩) (hd:=⟨rfl⟩) rfl rfl rfl rfl) ag ?_;by_cases e:x=y
 ·rw[aG (fun h:¬ [x.1,x.2.1,x.2.2]=[y.1,y.2.1,y.2.2]=>h (by rw[e]))];refine Ru ?_;intros;refine⟨i+1,⟨ab,?_⟩,ab,?_,Ent.refl _⟩
  ·rw[aD a4,aD ab,ht];rw[getElem!_of a4] at hx;rw[getElem!_of ab] at hy;rw[hx,hy,e]
  ·rw[aV i];exact av
 ·have e2:¬ [x.1,x.2.1,x.2.2]=[y.1,y.2.1,y.2.2]:=fun h=>e (by
   obtain⟨a1,a2,a3⟩:=x;obtain⟨b1,b2,b3⟩:=y;simpa using h)
  rw[aS e2,aG (fun h:xs=ys=>e (by rw[←hx,←hy,h]))];refine Ru ?_;intros;exact KX.en ⟨rfl,rfl⟩
def nB(t:Hd):∀u∈fj t,u.oneCell' = true:=by simp[fj,Value.oneCell']
abbrev tHd:Nat:=112
def hdC(x y:Hd):Int:=orI (cmpI x.1 y.1) (cmpI x.2.1 y.2.1)
def klt(x y:Hd):Prop:=x.1<y.1∨(x.1=y.1∧x.2.1<y.2.1)
def ml(x y:Hd):hdC x y<0↔klt x y:=by
 unfold hdC orI cmpI klt;(repeat' split)<;>omega
def qZ:Go.Sort.SWO (ltOf hdC) where
 irrefl x:=by simp only[ltOf,decide_eq_false_iff_not];rw[ml];unfold klt;omega
 trans x y z h1 h2:=by simp only[ltOf,decide_eq_true_eq] at *;rw[ml] at *;unfold klt at *;omega
 ntrans x y z h1 h2:=by simp only[ltOf,decide_eq_false_iff_not] at *;rw[ml] at *;unfold klt at *;omega
structure HoldL (f:Int→Int→Int) (hs:List Hd):Prop where
 srt:hs.Pairwise klt
 mem:∀h,h∈hs↔h.2.2=f h.1 h.2.1∧h.2.2≠0
def tM{x:Hd}:¬klt x x:=by unfold klt;omega
def FC{x y:Hd}(h:klt x y):¬klt y x:=by unfold klt at *;omega
def pC:∀{l m:List Hd},l.Pairwise klt→m.Pairwise klt→(∀x,x∈l↔x∈m)→l=m
 | [],[],_,_,_=>rfl
 | [],y::m,_,_,h=>absurd ((h y).2 aq) bZ
 | x::l,[],_,_,h=>absurd ((h x).1 aq) bZ
 | x::l,y::m,h1,h2,h=>by
  obtain⟨a1,a2⟩:=List.pairwise_cons.1 h1;obtain⟨b1,b2⟩:=List.pairwise_cons.1 h2
  have e:x=y:=by
   rcases List.mem_cons.1 ((h x).1 aq) with e|hx
   ·exact e
   ·rcases List.mem_cons.1 ((h y).2 aq) with e|hy
    ·exact e.symm
    ·exact absurd (a1 y hy) (FC (b1 x hx))
  subst e;rw[pC a2 b2 (fun z=>?_)];constructor
  ·intro hz;rcases List.mem_cons.1 ((h z).1 (au _ hz)) with e|q
   ·exact absurd (e▸a1 z hz) tM
   ·exact q
  ·intro hz;rcases List.mem_cons.1 ((h z).2 (au _ hz)) with e|q
   ·exact absurd (e▸b1 z hz) tM
   ·exact q
def HoldL.unique{f g:Int→Int→Int}{l m:List Hd}(h1:HoldL f l)(h2:HoldL g m)(e:∀a i,f a i=g a i):l=m :=
 pC h1.srt h2.srt (fun x=>by rw[h1.mem,h2.mem,e])
end
section
open Go.V
def gC(x:Lot)(s:LL×Int×Int)(p:Lot):LL×Int×Int :=
 if max p.2.1 s.2.1 ≥ min (p.2.1+p.2.2) (x.2.1+x.2.2) then s
 else(aY s.1 (x.1,s.2.1,max p.2.1 s.2.1 - s.2.1),min (p.2.1+p.2.2) (x.2.1+x.2.2),s.2.2 - (min (p.2.1+p.2.2) (x.2.1+x.2.2) - max p.2.1 s.2.1))
def wLot(x:Lot)(ps:LL)(s:LL×Int):LL×Int :=
 (aY (ps.foldl (gC x) (s.1,x.2.1,s.2)).1 (x.1,(ps.foldl (gC x) (s.1,x.2.1,s.2)).2.1,x.2.1+x.2.2 - (ps.foldl (gC x) (s.1,x.2.1,s.2)).2.1),(ps.foldl (gC x) (s.1,x.2.1,s.2)).2.2)
def ofF(ys:LL)(f:Int):LL:=ys.filter (fun p=>decide (p.1=f))
def wAll(ys:LL)(a0:LL)(s:LL×Int):LL×Int:=a0.foldl (fun s x=>wLot x (ofF ys x.1) s) s
def curL(x:Lot)(at_:Int):LL:=if at_<x.2.1+x.2.2 then[(x.1,at_,x.2.1+x.2.2 - at_)] else[]
def Ord(ys:LL):Prop:=ys.Pairwise (fun a b=>a.2.1+a.2.2≤b.2.1)
def BP(a b:LL):∀ps:LL,ps.foldl subL (a++b)=ps.foldl subL a++ps.foldl subL b:=fun ps=>by
 rw[lM ps (a++b),lM ps a,lM ps b,dd]
def ow:∀{ps l:LL},(∀p∈ps,∀z∈l,apart z p)→ps.foldl subL l=l
 | [],_,_=>rfl
 | p::ps,l,h=>by
  show ps.foldl subL (subL l p)=l;rw[kP (h p aq)];exact ow (fun q hq=>h q (au _ hq))
def rP{x:Lot}(hx:LotOk x):∀(ys:LL) (out:LL) (at_ a0:Int),Ord ys→(∀p∈ys,LotOk p∧p.1=x.1)→x.2.1≤at_→at_≤x.2.1+x.2.2 →
  aY (ys.foldl (gC x) (out,at_,a0)).1 (x.1,(ys.foldl (gC x) (out,at_,a0)).2.1,x.2.1+x.2.2 - (ys.foldl (gC x) (out,at_,a0)).2.1)=(ys.foldl subL (curL x at_)).foldl aY out ∧
  (ys.foldl (gC x) (out,at_,a0)).2.2=a0 - OV ys (x.1,at_,x.2.1+x.2.2 - at_)
 | [],out,at_,a0,_,_,h1,h2=>by
  refine⟨?_,by show a0=a0 - 0;omega⟩;show aY out (x.1,at_,x.2.1+x.2.2 - at_)=(curL x at_).foldl aY out;unfold curL;by_cases c:at_<x.2.1+x.2.2
  ·rw[if_pos c];rfl
  ·rw[if_neg c];show _=out;exact if_pos fm
 | p::ys,out,at_,a0,ho,hp,h1,h2=>by
  obtain⟨o1,o2⟩:=List.pairwise_cons.1 ho;obtain⟨a5,a3⟩:=hp p aq;have a1:∀q∈ys,LotOk q∧q.1=x.1:=fun q hq=>hp q (au _ hq);have a2:=a5;unfold LotOk at a2 hx;by_cases c:max p.2.1 at_ ≥ min (p.2.1+p.2.2) (x.2.1+x.2.2)
  ·have es:gC x (out,at_,a0) p=(out,at_,a0):=if_pos c
   have ec:subL (curL x at_) p=curL x at_:=by
    unfold curL;split
    ·refine kP (fun z hz=>?_);rw[List.mem_singleton.1 hz];unfold apart;dsimp only;omega
    ·rfl
   obtain⟨i1,i2⟩:=rP (by unfold LotOk;omega) ys out at_ a0 o2 a1 h1 h2
   have e0:ov p (x.1,at_,x.2.1+x.2.2 - at_)=0:=by
    unfold ov;rw[if_pos a3];dsimp only;omega
   show aY (ys.foldl (gC x) (gC x (out,at_,a0) p)).1 _=(ys.foldl subL (subL (curL x at_) p)).foldl aY out∧(ys.foldl (gC x) (gC x (out,at_,a0) p)).2.2=a0 - (ov p _+OV ys _);rw[es,ec,e0];refine⟨?_,by rw[i2];omega⟩;have a4:=i1;rw[show List.foldl (gC x) (out,at_,a0) (p::ys)=List.foldl (gC x) (gC x (out,at_,a0) p) ys from rfl,es];exact a4
  ·have es:gC x (out,at_,a0) p=(aY out (x.1,at_,max p.2.1 at_ - at_),min (p.2.1+p.2.2) (x.2.1+x.2.2),a0 - (min (p.2.1+p.2.2) (x.2.1+x.2.2) - max p.2.1 at_)):=if_neg c;obtain⟨i1,i2⟩:=rP (by unfold LotOk;omega) ys (aY out (x.1,at_,max p.2.1 at_ - at_)) (min (p.2.1+p.2.2) (x.2.1+x.2.2)) (a0 - (min (p.2.1+p.2.2) (x.2.1+x.2.2) - max p.2.1 at_)) o2 a1 ab ab
   have ec:subL (curL x at_) p=(if at_<p.2.1 then[(x.1,at_,p.2.1 - at_)] else[])++curL x (min (p.2.1+p.2.2) (x.2.1+x.2.2)):=by
    unfold curL;rw[if_pos (ab:at_<x.2.1+x.2.2)];show subL [_] p=_;unfold subL;rw[kL,jZ fm];dsimp only;rw[a3];congr 1;by_cases e:p.2.1+p.2.2<x.2.1+x.2.2
    ·rw[if_pos ab,if_pos ab,show min (p.2.1+p.2.2) (x.2.1+x.2.2)=p.2.1+p.2.2 by omega,show at_+(x.2.1+x.2.2 - at_) - p.2.1 - p.2.2=x.2.1+x.2.2 - (p.2.1+p.2.2) by omega]
    ·rw[if_neg ab,if_neg ab]
   have e0:ov p (x.1,at_,x.2.1+x.2.2 - at_)=min (p.2.1+p.2.2) (x.2.1+x.2.2) - max p.2.1 at_:=by
    unfold ov;rw[if_pos a3];dsimp only;omega
   have e1:OV ys (x.1,at_,x.2.1+x.2.2 - at_)=OV ys (x.1,min (p.2.1+p.2.2) (x.2.1+x.2.2),x.2.1+x.2.2 - min (p.2.1+p.2.2) (x.2.1+x.2.2)):=by
    clear i1 i2 ho o2 hp es ec e0;revert o1 a1;induction ys with
    | nil=>intro _ _;rfl
    | cons q ys ih =>
     intro o1 a1;have h5:=ih (fun z hz=>o1 z (au _ hz)) (fun z hz=>a1 z (au _ hz));have h6:=o1 q aq;obtain⟨h7,h8⟩:=a1 q aq;unfold LotOk at h7;show ov q _+OV ys _=ov q _+OV ys _;rw[h5];congr 1;unfold ov;rw[if_pos h8,if_pos h8];dsimp only;omega
   have ei:ys.foldl subL (if at_<p.2.1 then[(x.1,at_,p.2.1 - at_)] else[])=(if at_<p.2.1 then[(x.1,at_,p.2.1 - at_)] else[]):=by
    refine ow (fun q hq z hz=>?_);split at hz
    ·rw[List.mem_singleton.1 hz];have:=o1 q hq
     unfold apart;dsimp only;omega
    ·cases hz
   have ep:∀r:LL,((if at_<p.2.1 then[((x.1,at_,p.2.1 - at_):Lot)] else[])++r).foldl aY out=r.foldl aY (aY out (x.1,at_,max p.2.1 at_ - at_)):=fun r=>by
    rw[cv];by_cases e:at_<p.2.1
    ·rw[if_pos e,show max p.2.1 at_=p.2.1 by omega];rfl
    ·rw[if_neg e];show r.foldl aY out=_;rw[show aY out (x.1,at_,max p.2.1 at_ - at_)=out from if_pos fm]
   rw[show List.foldl (gC x) (out,at_,a0) (p::ys)=List.foldl (gC x) (gC x (out,at_,a0) p) ys from rfl,es];show aY _ _=(ys.foldl subL (subL (curL x at_) p)).foldl aY out∧_=a0 - (ov p _+OV ys _);rw[ec,BP,ei,ep,e0,e1];exact⟨i1,by rw[i2];omega⟩
end
section
open Go.V
attribute [local irreducible] G GO GP GPW GPK Ev Ef EfR Ent CB GB V.Enters
def jh{L:LH}(x:Lot)(hx:LotW x):Tri ai 232 #[aN (aj x)] L (fun v L'=>v=ac (x.2.1+x.2.2)∧L' = L):=by
 unfold LotW at hx;refine Tri.bd ?_;refine Jq ?_;intros;exact KX.en ⟨rfl,rfl⟩
def mM{L:LH}(ad:OA)(cap n c:Nat)(xs:LL)(x:Lot)(hn:n=xs.length)(a6:c=cap)(hl:xs.length≤100000000)(a5:∀y∈xs,LotW y)(hx:LotW x) :
  Tri ai 240 #[ah ad n c,ac x.1,ac x.2.1,ac x.2.2] (osl aj 3 tLot ad cap xs::L) (fun v L'=>∃a4 a1,v=ah a4 (aY xs x).length a1∧L' = osl aj 3 tLot a4 a1 (aY xs x)::L):=by
 subst hn a6;refine Tri.bd (args:=[ah ad xs.length c,ac x.1,ac x.2.1,ac x.2.2]) ?_;by_cases h0:x.2.2=0
 ·have e:aY xs x=xs:=by unfold aY;rw[if_pos h0]
  rw[e];refine Jq ?_;intros;exact KX.en ⟨ad,c,rfl,rfl⟩
 by_cases h1:xs.length=0
 ·have e:aY xs x=xs++[x]:=by unfold aY;rw[if_neg h0,if_neg (fun h=>h.1 h1)]
  rw[e];refine Jq ?_;intros;refine GO.ef (Ef.d7 (enc:=aj) (e:=x) rfl rfl rfl rfl rfl aK (co _) ab ab) ag ?_;rintro _ _⟨ad2,a0,rfl,rfl⟩;refine Jq ?_;intros;exact KX.en ⟨ad2,a0,rfl,rfl⟩
 have a2:((xs.length:Int) - 1).toNat=xs.length - 1:=ab;have a3:=a5 _ (aI (ab:xs.length - 1<xs.length));have a7:((xs.length:Int) - 1).toNat<xs.length:=ab;rw[←a2] at a3;by_cases hf:xs[((xs.length:Int) - 1).toNat]!.1=x.1
 case neg =>
  have e:aY xs x=xs++[x]:=by
   unfold aY;rw[a2] at hf;rw[if_neg h0,if_neg (fun h=>hf (lcont_iff.1 h.2).1.symm)]
  rw[e];refine Jq ?_;intros;refine GO.ef (Ef.d7 (enc:=aj) (e:=x) rfl rfl rfl rfl rfl aK (co _) ab ab) ag ?_;rintro _ _⟨ad2,a0,rfl,rfl⟩;refine Jq ?_;intros;exact KX.en ⟨ad2,a0,rfl,rfl⟩
 refine Jq ?_;intros;refine GO.cr (jh xs[((xs.length:Int) - 1).toNat]! a3) ?_;by_cases hc:kD x xs[((xs.length:Int) - 1).toNat]!
 ·have a9:=lcont_iff.1 hc;unfold LotW at a3 hx;refine Jq ?_;intros;refine GO.efu (Ef.g9 (e:=((xs[((xs.length:Int) - 1).toNat]!.1,xs[((xs.length:Int) - 1).toNat]!.2.1,xs[((xs.length:Int) - 1).toNat]!.2.2+x.2.2):Lot)) rfl rfl aK rfl ab ag) ?_;rintro _ _ rfl
  have e:aY xs x=xs.set ((xs.length:Int) - 1).toNat (xs[((xs.length:Int) - 1).toNat]!.1,xs[((xs.length:Int) - 1).toNat]!.2.1,xs[((xs.length:Int) - 1).toNat]!.2.2+x.2.2):=by
   unfold aY;rw[a2] at hc ⊢;rw[if_neg h0,if_pos ⟨h1,hc⟩]
  rw[e];refine Jq ?_;intros;exact KX.d7 al ae ⟨ad,c,by rw[cu];rfl,rfl⟩
 ·have a8:¬xs[((xs.length:Int) - 1).toNat]!.2.1+xs[((xs.length:Int) - 1).toNat]!.2.2=x.2.1:=fun q=>hc (lcont_iff.2 ⟨hf.symm,q.symm⟩)
  have e:aY xs x=xs++[x]:=by
   unfold aY;rw[a2] at hc;rw[if_neg h0,if_neg (fun h=>hc h.2)]
  rw[e];refine Jq ?_;intros;refine GO.ef (Ef.d7 (enc:=aj) (e:=x) rfl rfl rfl rfl rfl aK (co _) ab ab) ag ?_;rintro _ _⟨ad2,a0,rfl,rfl⟩;refine Jq ?_;intros;exact KX.en ⟨ad2,a0,rfl,rfl⟩
abbrev AT:=ay5 [.ev 8,.ef 9,.ev 10]
abbrev AS:=ay8 [.ef 17,.ev 18]
def RA{φ ψ:Prop}(k:ψ)(h:Hid ψ→φ:=by intro k;(repeat (first|refine aa ?_|intro zzz|refine G.dr 46 4 AT ?_|refine G.dr 46 5 AS ?_));(repeat revert zzz);exact Hid.out k):φ:=h ⟨k⟩
def vI{L:LH}(ad:OA)(n c:Nat)(l:LL)(ad2:OA)(n2 c2:Nat)(cs:List Int)[hr:Rds L ad Lot aj 3 l][c0:Rds L ad2 Int (encZ .i64) 1 cs](hn:n=l.length)(b0:n2=cs.length)(c1:l.length≤4096)(c7:cs.length=l.length)(hl:∀x∈l,LotW x)(hc:∀k,k<l.length→0≤cs[k]!∧cs[k]!≤l[k]!.2.2) :
  Tri ai 156 #[ah ad n c,ah ad2 n2 c2] L (fun v L'=>∃a7 c3 a8 c4,v=.tuple #[ah a7 (divF l (fun k=>cs[k]!) l.length).length c3,ah a8 (divR l (fun k=>cs[k]!) l.length).length c4]∧L' = osl aj 3 tLot a7 c3 (divF l (fun k=>cs[k]!) l.length)::osl aj 3 tLot a8 c4 (divR l (fun k=>cs[k]!) l.length)::L):=by
 subst hn b0;generalize hf:(fun k=>cs[k]! : Nat→Int)=f;have a0:∀k,cs[k]! = f k:=fun k=>by rw[←hf]
 refine Tri.bd ?_;refine RA ?_;intros;refine G.loop (α:=Nat×OA×Nat×OA×Nat) (fun g=>g.1≤l.length) (fun g=>[(1,ah ad2 cs.length c2),(4,ah g.2.1 (divF l f g.1).length g.2.2.1),(5,ah g.2.2.2.1 (divR l f g.1).length g.2.2.2.2),(8,ah ad l.length c),(9,ac l.length),(10,ac (g.1:Int))]) (fun g=>osl aj 3 tLot g.2.1 g.2.2.1 (divF l f g.1)::osl aj 3 tLot g.2.2.2.1 g.2.2.2.2 (divR l f g.1)::L) (fun g=>l.length - g.1) (0,none,0,none,0) (aw _) av ((Ent.d8 aj 3 tLot).trans (Ent.d8 aj 3 tLot)) ?_;rintro⟨i,a3,c3,a4,c4⟩ hi;dsimp only at hi ⊢;by_cases a2:i<l.length
 case neg =>
  obtain rfl:i=l.length:=ab;refine RA ?_;intros;exact KX.en ⟨a3,c3,a4,c4,rfl,rfl⟩
 have a1:(i:Int).toNat=i:=aC i;have b3 : (i:Int).toNat<l.length:=ab;have b4:(i:Int).toNat<cs.length:=ab;obtain⟨b1,b2⟩:=hc i a2;rw[a0] at b1 b2;have a9:=hl _ (aI a2);have hx:=a9;unfold LotW at hx;refine RA ?_;intros;have b6:=kq l f i;have b5:∀y∈divF l f i,LotW y:=(wk hl (fun k hk=>by have:=hc k hk;rw[a0] at this;exact this) i hi).1;have b7:∀y∈divR l f i,LotW y:=(wk hl (fun k hk=>by have:=hc k hk;rw[a0] at this;exact this) i hi).2
 have eF:aY (divF l f i) (l[(i:Int).toNat]!.1,l[(i:Int).toNat]!.2.1,cs[(i:Int).toNat]!)=divF l f (i+1):=by
  rw[qE,a1,a0];rfl
 have eR:aY (divR l f i) (l[(i:Int).toNat]!.1,l[(i:Int).toNat]!.2.1+cs[(i:Int).toNat]!,l[(i:Int).toNat]!.2.2 - cs[(i:Int).toNat]!)=divR l f (i+1):=by
  rw[nD,a1,a0];rfl
 have b8 : LotW l[(i:Int).toNat]!:=by rw[a1];exact a9
 have b9 : 0≤cs[(i:Int).toNat]!∧cs[(i:Int).toNat]!≤l[(i:Int).toNat]!.2.2:=by rw[a1];exact hc i a2
 unfold LotW at b8;(first|refine GPW.ef (Ef.call (mM (L:=[]) a3 c3 _ _ (divF l f i) (l[(i:Int).toNat]!.1,l[(i:Int).toNat]!.2.1,cs[(i:Int).toNat]!) rfl rfl ab b5 (by unfold LotW;dsimp only;omega)) rfl cJ) ag ?_);rintro _ _⟨_,⟨a5,c5,rfl,rfl⟩,hL⟩;simp only[ao,an] at hL;subst hL;rw[eF];refine RA ?_;intros;(first|refine GPW.ef (Ef.call (mM (L:=[]) a4 c4 _ _ (divR l f i) (l[(i:Int).toNat]!.1,l[(i:Int).toNat]!.2.1+cs[(i:Int).toNat]!,l[(i:Int).toNat]!.2.2 - cs[(i:Int).toNat]!) rfl rfl ab b7 (by unfold LotW;dsimp only;omega)) rfl cJ) ag ?_);rintro _ _⟨_,⟨a6,c6,rfl,rfl⟩,hL⟩;simp only[ao,an] at hL;subst hL;rw[eR];refine RA ?_;intros;refine⟨(i+1,a5,c5,a6,c6),by dsimp only;omega,by dsimp only;omega,?_,by exact ae⟩;dsimp only;rw[aV i];exact av
def AV{L:LH}(ad:OA)(n c:Nat)(l:LL)(m:Int)[hr:Rds L ad Lot aj 3 l](hn:n=l.length)(a8:l.length≤4096)(hl:∀x∈l,LotW x)(h0:0≤m)(h1:m≤1099511627776) :
  Tri ai 154 #[ah ad n c,ac m] L (fun v L'=>∃a3 a0,v=ah a3 l.length a0∧L' = osl (encZ .i64) 1 tInt a3 a0 ((List.range l.length).map (fuC l m))::L):=by
 subst hn;refine Tri.bd ?_;refine Jq ?_;intros;refine GO.ef (Ef.makeSlice (encZ .i64) 0 rfl rfl rfl ab ab ab) ag ?_;rintro _ _⟨bp,rfl,rfl⟩;rw[aC,←ko l.length (fuC l m)];refine Jq ?_;intros;refine G.loop (α:=Nat) (fun i=>i≤l.length) (fun i=>[(1,ac (fuR l m i)),(5,ah (some ⟨bp,0,none⟩) l.length l.length),(11,ah ad l.length c),(12,ac l.length),(13,ac (i:Int))]) (fun i=>osl (encZ .i64) 1 tInt (some ⟨bp,0,none⟩) l.length (gx l.length i (fuC l m))::L) (fun i=>l.length - i) 0 (aw _) av (Ent.refl _) ?_;intro i hi;have a5:=kf l.length i (fuC l m);by_cases a1:i<l.length
 case neg =>
  obtain rfl:i=l.length:=ab;rw[lc];refine Jq ?_;intros;exact KX.en ⟨some ⟨bp,0,none⟩,l.length,rfl,rfl⟩
 have a2:(i:Int).toNat=i:=aC i;have a4 : (i:Int).toNat<l.length:=ab;have hx:=hl _ (aI a1);unfold LotW at hx;obtain⟨b1,b2⟩:=ot h0 hl i hi;obtain⟨b3,b4⟩:=ot h0 hl (i+1) a1;have e1:fuR l m (i+1)=fuR l m i - fuC l m i:=rfl;have e2:(gx l.length i (fuC l m)).set i (fuC l m i)=gx l.length (i+1) (fuC l m):=la (fuC l m) a1
 have e3:(gx l.length (i+1) (fuC l m))[i]! = fuC l m i:=by
  rw[←e2,getElem!_of (by rw[cu];omega),List.getElem_set_self]
 have a6:=kf l.length (i+1) (fuC l m);have hq:min (fuR l m i) l[(i:Int).toNat]!.2.2=fuC l m i:=by rw[a2];rfl
 have a7:((gx l.length i (fuC l m)).set (i:Int).toNat (min (fuR l m i) l[(i:Int).toNat]!.2.2)).length=l.length:=by rw[cu];exact a5
 have e4:(gx l.length i (fuC l m)).set (i:Int).toNat (min (fuR l m i) l[(i:Int).toNat]!.2.2)=gx l.length (i+1) (fuC l m):=by rw[hq,a2,e2]
 have e5:((gx l.length i (fuC l m)).set (i:Int).toNat (min (fuR l m i) l[(i:Int).toNat]!.2.2))[(i:Int).toNat]! = fuC l m i:=by rw[e4,a2,e3]
 refine Jq ?_;intros;refine⟨i+1,ab,ab,?_,by rw[e4];exact ae⟩;rw[e1,aV i,←e5];exact av
