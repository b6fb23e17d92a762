/- Lemmas. -/
import Derived.Test.YtommnllbflbdmaaGreatDoorCatbi
import Derived.Test.YtommnllbflbdmaaGreatDoorCatbf
set_option linter.all false
set_option maxHeartbeats 4000000
namespace Go.Proofs.YtommnllbflbdmaaGreatDoor
section
open Go.V
def hasU(l:LL1)(f a:Int):Prop:=∃y∈l,y.1=f∧y.2.1≤a∧a<y.2.1+y.2.2
def kE{f a:Int}:¬hasU [] f a:=fun⟨_,h,_⟩=>by cases h
def hasU_cons{x:Lot}{l:LL1}{f a:Int}:hasU (x::l) f a↔(x.1=f∧x.2.1≤a∧a<x.2.1+x.2.2)∨hasU l f a:=by
 constructor
 ·rintro⟨y,hy,h⟩;rcases List.mem_cons.1 hy with rfl|hy
  ·exact .inl h
  ·exact .inr ⟨y,hy,h⟩
 ·rintro (h|⟨y,hy,h⟩)
  ·exact⟨x,au,h⟩
  ·exact⟨y,aw _ hy,h⟩
def mT{x:Lot}{f a:Int}:hasU [x] f a↔x.1=f∧x.2.1≤a∧a<x.2.1+x.2.2:=by
 rw[hasU_cons];exact⟨fun h=>h.resolve_right kE,.inl⟩
def xp{l m:LL1}{f a:Int}:hasU (l++m) f a↔hasU l f a∨hasU m f a:=by
 constructor
 ·rintro⟨y,hy,h⟩;rcases List.mem_append.1 hy with hy|hy
  ·exact .inl ⟨y,hy,h⟩
  ·exact .inr ⟨y,hy,h⟩
 ·rintro (⟨y,hy,h⟩|⟨y,hy,h⟩)
  ·exact⟨y,bQ _ hy,h⟩
  ·exact⟨y,bD _ hy,h⟩
def DW{x y:Lot}(hx:LotOk x){f a:Int}:hasU (subS x y) f a↔(y.1=f∧y.2.1≤a∧a<y.2.1+y.2.2)∧¬(x.1=f∧x.2.1≤a∧a<x.2.1+x.2.2):=by
 unfold LotOk at hx;by_cases h:y.1≠x.1∨x.2.1+x.2.2≤y.2.1∨y.2.1+y.2.2≤x.2.1
 ·rw[kK h,mT];omega
 ·rw[jJ h];by_cases c1:y.2.1<x.2.1<;>by_cases c2:x.2.1+x.2.2<y.2.1+y.2.2
  ·rw[if_pos c1,if_pos c2,xp,mT,mT];dsimp only;omega
  ·rw[if_pos c1,if_neg c2,aO,mT];dsimp only;omega
  ·rw[if_neg c1,if_pos c2,aj,mT];dsimp only;omega
  ·rw[if_neg c1,if_neg c2,aO];exact⟨fun h=>absurd h kE,fun q=>absurd q ab⟩
def ud{x:Lot}(hx:LotOk x){f a:Int}:∀l:LL1,hasU (subL l x) f a↔hasU l f a∧¬(x.1=f∧x.2.1≤a∧a<x.2.1+x.2.2)
 | []=>⟨fun h=>absurd h kE,fun h=>absurd h.1 kE⟩
 | y::l=>by
  have e:subL (y::l) x=subS x y++subL l x:=bB;rw[e,xp,DW hx,ud hx l,hasU_cons];exact or_and_right.symm
def rI{f a:Int}:∀{ps l:LL1},(∀x∈ps,LotOk x)→(hasU (ps.foldl subL l) f a↔hasU l f a∧¬hasU ps f a)
 | [],l,_=>⟨fun h=>⟨h,kE⟩,fun h=>h.1⟩
 | p::ps,l,h=>by
  have ih:=rI (f:=f) (a:=a) (ps:=ps) (l:=subL l p) (fun x hx=>h x (aw _ hx));show hasU (ps.foldl subL (subL l p)) f a↔_;rw[ih,ud (h p au),hasU_cons,and_assoc,not_or]
def He{x y:Lot}(hx:LotOk x):(subS x y).Pairwise sl:=by
 unfold LotOk at hx;by_cases h:y.1≠x.1∨x.2.1+x.2.2≤y.2.1∨y.2.1+y.2.2≤x.2.1
 ·rw[kK h];exact bq _ _
 ·rw[jJ h];refine List.pairwise_append.2 ⟨?_,?_,?_⟩
  ·split
   ·exact bq _ _
   ·exact .nil
  ·split
   ·exact bq _ _
   ·exact .nil
  ·intro p hp q hq;split at hp
   ·split at hq
    ·rw[List.mem_singleton.1 hp,List.mem_singleton.1 hq];unfold sl;dsimp only;omega
    ·cases hq
   ·cases hp
def AE{x:Lot}(hx:LotOk x):∀{l:LL1},(∀y∈l,LotOk y)→l.Pairwise sl→(subL l x).Pairwise sl
 | [],_,_=>.nil
 | y::l,hl,h=>by
  have e:subL (y::l) x=subS x y++subL l x:=bB;rw[eu] at h;rw[e];refine List.pairwise_append.2 ⟨He hx,AE hx (fun z hz=>hl z (aw _ hz)) h.2,fun p hp q hq=>?_⟩;obtain⟨p1,p2,p3,p4⟩:=lB hx (hl y au) hp;obtain⟨w,hw,q1,q2,q3,q4⟩:=mG hx (fun z hz=>hl z (aw _ hz)) hq;have:=h.1 w hw
  unfold sl at this ⊢;omega
def xR:∀{ps l:LL1},(∀x∈ps,LotOk x)→(∀y∈l,LotOk y)→l.Pairwise sl→(ps.foldl subL l).Pairwise sl
 | [],_,_,_,h=>h
 | p::ps,l,hp,hl,h=>by
  have h1:=hp p au;exact xR (ps:=ps) (l:=subL l p) (fun x hx=>hp x (aw _ hx)) (nK h1 hl) (AE h1 hl h)
def AG:∀{a b:LL1},(∀x∈a,LotOk x)→(∀x∈b,LotOk x)→a.Pairwise sl→b.Pairwise sl→(∀f u,hasU a f u↔hasU b f u)→a=b
 | [],[],_,_,_,_,_=>rfl
 | [],y::b,_,hb,_,_,h=>by
  have h1:=hb y au;unfold LotOk at h1;exact absurd ((h y.1 y.2.1).2 (hasU_cons.2 (.inl ⟨rfl,ab,ab⟩))) kE
 | x::a,[],ha,_,_,_,h=>by
  have h1:=ha x au;unfold LotOk at h1;exact absurd ((h x.1 x.2.1).1 (hasU_cons.2 (.inl ⟨rfl,ab,ab⟩))) kE
 | x::a,y::b,ha,hb,sa,sb,h=>by
  have hx:=ha x au;have hy:=hb y au;unfold LotOk at hx hy;rw[eu] at sa sb
  have fa:∀f u,hasU (x::a) f u→x.1<f∨(x.1=f∧x.2.1≤u∧(u<x.2.1+x.2.2∨x.2.1+x.2.2<u)):=by
   rintro f u ⟨w,hw,h1,h2,h3⟩;rcases List.mem_cons.1 hw with rfl|hw
   ·omega
   ·have:=sa.1 w hw
    unfold sl at this;omega
  have fb:∀f u,hasU (y::b) f u→y.1<f∨(y.1=f∧y.2.1≤u∧(u<y.2.1+y.2.2∨y.2.1+y.2.2<u)):=by
   rintro f u ⟨w,hw,h1,h2,h3⟩;rcases List.mem_cons.1 hw with rfl|hw
   ·omega
   ·have:=sb.1 w hw
    unfold sl at this;omega
  have g1:=fb x.1 x.2.1 ((h _ _).1 (hasU_cons.2 (.inl ⟨rfl,ab,ab⟩)));have g2:=fa y.1 y.2.1 ((h _ _).2 (hasU_cons.2 (.inl ⟨rfl,ab,ab⟩)));have e1:x.1=y.1:=ab;have e2:x.2.1=y.2.1:=ab
  have e3:x.2.2=y.2.2:=by
   rcases Int.lt_trichotomy x.2.2 y.2.2 with q|q|q
   ·have:=fa y.1 (x.2.1+x.2.2) ((h _ _).2 (hasU_cons.2 (.inl ⟨rfl,ab,ab⟩)))
    omega
   ·exact q
   ·have:=fb x.1 (y.2.1+y.2.2) ((h _ _).1 (hasU_cons.2 (.inl ⟨rfl,ab,ab⟩)))
    omega
  have e:x=y:=Prod.ext e1 (Prod.ext e2 e3);subst e;rw[AG (a:=a) (b:=b) (fun z hz=>ha z (aw _ hz)) (fun z hz=>hb z (aw _ hz)) sa.2 sb.2 fun f u=>?_];have h0:=h f u;rw[hasU_cons,hasU_cons] at h0
  have n1:hasU a f u→¬(x.1=f∧x.2.1≤u∧u<x.2.1+x.2.2):=by
   rintro⟨w,hw,h1,h2,h3⟩;have:=sa.1 w hw
   unfold sl at this;omega
  have n2:hasU b f u→¬(x.1=f∧x.2.1≤u∧u<x.2.1+x.2.2):=by
   rintro⟨w,hw,h1,h2,h3⟩;have:=sb.1 w hw
   unfold sl at this;omega
  constructor
  ·intro q;exact(h0.1 (.inr q)).resolve_left (n1 q)
  ·intro q;exact(h0.2 (.inr q)).resolve_left (n2 q)
def Bf{l:LL1}(hl:∀y∈l,LotOk y){f a:Int}(hf:0≤f)(ha:0≤a)(hb:a<1099511627776):hasU l f a↔OV l (f,a,1)≠0:=by
 rw[tg hl (show LotOk (f,a,1) by unfold LotOk;dsimp only;omega)];constructor
 ·rintro⟨y,hy,h⟩;refine⟨y,hy,?_⟩;unfold apart;dsimp only;omega
 ·rintro⟨y,hy,h⟩;refine⟨y,hy,?_⟩;unfold apart at h;dsimp only at h;omega
def AT{l:LL1}(hl:∀y∈l,LotOk y){f a:Int}(h:hasU l f a):0≤f∧0≤a∧a<1099511627776:=by
 obtain⟨y,hy,h1,h2,h3⟩:=h;have:=hl y hy
 unfold LotOk at this;omega
def Bg{l m:LL1}(hl:∀y∈l,LotOk y)(hm:∀y∈m,LotOk y)(h:∀t,LotOk t→OV l t=OV m t)(f a:Int):hasU l f a↔hasU m f a:=by
 have key:0≤f→0≤a→a<1099511627776→(hasU l f a↔hasU m f a):=fun h1 h2 h3=>by
  rw[Bf hl h1 h2 h3,Bf hm h1 h2 h3,h _ (show LotOk (f,a,1) by unfold LotOk;dsimp only;omega)]
 constructor
 ·intro q;obtain⟨h1,h2,h3⟩:=AT hl q;exact(key h1 h2 h3).1 q
 ·intro q;obtain⟨h1,h2,h3⟩:=AT hm q;exact(key h1 h2 h3).2 q
def Ej{ps zs:LL1}(hp:∀y∈ps,LotOk y)(hz:∀y∈zs,LotOk y)(h:∀f a,hasU ps f a↔hasU zs f a){x:Lot}(hx:LotOk x):fP ps x=fP zs x:=by
 have h1:∀y∈[x],LotOk y:=fun y hy=>by rw[List.mem_singleton.1 hy];exact hx
 refine AG (oo hp hx).1 (oo hz hx).1 (xR hp h1 (bq _ _)) (xR hz h1 (bq _ _)) fun f u=>?_;show hasU (ps.foldl subL [x]) f u↔hasU (zs.foldl subL [x]) f u;rw[rI hp,rI hz,h f u]
def pzo(x y:Lot):Int:=max 0 (y.2.1 - x.2.1)
def pzi(x y:Lot):Int:=min (x.2.2 - pzo x y) (y.2.1+y.2.2 - (x.2.1+pzo x y))
def pz2(x y:Lot):Lot:=(x.1,x.2.1+pzo x y+pzi x y,x.2.2 - pzo x y - pzi x y)
def pcz:LL1→Lot→List (Lot×Bool)
 | [],x=>if 0<x.2.2 then[(x,false)] else[]
 | y::ys,x =>
  if 0<x.2.2∧y.1=x.1∧y.2.1<x.2.1+x.2.2 then
   (if 0<pzo x y then[((x.1,x.2.1,pzo x y),false)] else[])++(((x.1,x.2.1+pzo x y,pzi x y),true)::pcz ys (pz2 x y))
  else if 0<x.2.2 then[(x,false)] else[]
def pzP(x y:Lot):Prop:=x.1<y.1∨(y.1=x.1∧x.2.1<y.2.1+y.2.2)
instance (x y:Lot):Decidable (pzP x y):=by unfold pzP;infer_instance
def skp(x:Lot):LL1→LL1
 | []=>[]
 | y::ys=>if pzP x y then y::ys else skp x ys
def pcs(set:LL1)(x:Lot):List (Lot×Bool):=pcz (skp x set) x
def vW(x:Lot):∀{set:LL1} {i:Nat},i≤set.length→(∀p,p<i→¬pzP x set[p]!)→(i<set.length→pzP x set[i]!)→set.drop i=skp x set
 | [],i,_,_,_=>by rw[List.drop_nil];rfl
 | y::ys,0,_,_,h=>by
  have:=h (Nat.succ_pos _)
  show y::ys=if pzP x y then y::ys else skp x ys;rw[if_pos (show pzP x y from this)]
 | y::ys,i+1,hi,h1,h2=>by
  have h0:¬pzP x y:=h1 0 (Nat.succ_pos _);show ys.drop i=if pzP x y then y::ys else skp x ys;rw[if_neg h0];refine vW x (by simpa using hi) (fun p hp=>h1 (p+1) ab) (fun q=>h2 (by simpa using q))
def qq(x:Lot):∀set:LL1,∃l,set=l++skp x set∧∀y∈l,¬pzP x y
 | []=>⟨[],rfl,fun _ h=>by cases h⟩
 | y::ys=>by
  by_cases h:pzP x y
  ·exact⟨[],by show y::ys=if pzP x y then y::ys else skp x ys;rw[if_pos h],fun _ h=>by cases h⟩
  ·obtain⟨l,h1,h2⟩:=qq x ys;refine⟨y::l,?_,fun z hz=>?_⟩
   ·show y::ys=y::l++(if pzP x y then y::ys else skp x ys);rw[if_neg h];exact congrArg (y::·) h1
   ·rcases List.mem_cons.1 hz with rfl|hz
    ·exact h
    ·exact h2 z hz
def mL(x:Lot):∀{set:LL1},set.Pairwise sl→(∀y∈set,LotOk y)→∀y∈skp x set,pzP x y
 | [],_,_,_,h=>by cases h
 | y::ys,hs,ho,z,hz=>by
  rw[eu] at hs;change z∈(if pzP x y then y::ys else skp x ys) at hz;by_cases h:pzP x y
  ·rw[if_pos h] at hz;rcases List.mem_cons.1 hz with rfl|hz
   ·exact h
   ·have h1:=hs.1 z hz;have h2:=ho z (aw _ hz);unfold pzP at h ⊢;unfold sl at h1;unfold LotOk at h2;omega
  ·rw[if_neg h] at hz;exact mL x hs.2 (fun w hw=>ho w (aw _ hw)) z hz
def ou{ys:LL1}{x:Lot}(h:¬0<x.2.2):pcz ys x=[]:=by
 cases ys with
 | nil=>exact if_neg h
 | cons y ys=>exact(if_neg (fun q=>h q.1)).trans (if_neg h)
def gx(l:List (Lot×Bool)):LL1:=(l.filter (fun q=>!q.2)).map Prod.fst
def pcIn(l:List (Lot×Bool)):LL1:=(l.filter (fun q=>q.2)).map Prod.fst
def ni(a b:List (Lot×Bool)):gx (a++b)=gx a++gx b:=by unfold gx;rw[dG,aR]
def wR(a b:List (Lot×Bool)):pcIn (a++b)=pcIn a++pcIn b:=by unfold pcIn;rw[dG,aR]
def qv{x y:Lot}{ys:LL1}(h:0<x.2.2∧y.1=x.1∧y.2.1<x.2.1+x.2.2):pcz (y::ys) x=(if 0<pzo x y then[((x.1,x.2.1,pzo x y),false)] else[])++(((x.1,x.2.1+pzo x y,pzi x y),true)::pcz ys (pz2 x y)):=if_pos h
def ow{x y:Lot}{ys:LL1}(h0:0<x.2.2)(h:¬(y.1=x.1∧y.2.1<x.2.1+x.2.2)):pcz (y::ys) x=[(x,false)]:=(if_neg (fun q=>h q.2)).trans (if_pos h0)
def AJ:∀{ys:LL1} {x:Lot},LotOk x→(∀y∈ys,LotOk y)→ys.Pairwise sl→(∀y∈ys,pzP x y)→gx (pcz ys x)=ys.foldl subL [x]
 | [],x,hx,_,_,_=>by
  unfold LotOk at hx;rw[show pcz [] x=[(x,false)] from if_pos ab];rfl
 | y::ys,x,hx,ho,hs,hp=>by
  have a2:=hx;unfold LotOk at a2;rw[eu] at hs;have hy:=ho y au;unfold LotOk at hy;have a1:=hp y au;unfold pzP at a1;have a0:∀w∈ys,LotOk w:=fun w hw=>ho w (aw _ hw);by_cases c:y.1=x.1∧y.2.1<x.2.1+x.2.2
  ·rw[qv ⟨ab,c⟩,ni];show _++gx (pcz ys (pz2 x y))=ys.foldl subL (subL [x] y);have e1:subL [x] y=subS y x:=kG _ _;rw[e1,jJ ab,Ba]
   have e2:ys.foldl subL (if x.2.1<y.2.1 then[(y.1,x.2.1,y.2.1 - x.2.1)] else[])=if x.2.1<y.2.1 then[(y.1,x.2.1,y.2.1 - x.2.1)] else[]:=by
    refine nS fun p hp z hz=>?_;split at hz
    ·rw[List.mem_singleton.1 hz];have:=hs.1 p hp
     unfold sl at this;unfold apart;dsimp only;omega
    ·cases hz
   rw[e2]
   have e3:gx (if 0<pzo x y then[((x.1,x.2.1,pzo x y),false)] else[])=if x.2.1<y.2.1 then[(y.1,x.2.1,y.2.1 - x.2.1)] else[]:=by
    by_cases q:x.2.1<y.2.1
    ·rw[if_pos q,if_pos (show 0<pzo x y by unfold pzo;omega),c.1,show pzo x y=y.2.1 - x.2.1 by unfold pzo;omega];rfl
    ·rw[if_neg q,if_neg (show ¬0<pzo x y by unfold pzo;omega)];rfl
   rw[e3];congr 1;by_cases q:y.2.1+y.2.2<x.2.1+x.2.2
   ·have e4:pz2 x y=(y.1,y.2.1+y.2.2,x.2.1+x.2.2 - y.2.1 - y.2.2):=by
     unfold pz2 pzi pzo;refine Prod.ext c.1.symm (Prod.ext ?_ ?_)<;>dsimp only<;>omega
    rw[if_pos q,e4];refine AJ (by unfold LotOk;dsimp only;omega) a0 hs.2 fun w hw=>?_;have h1:=hs.1 w hw;have h2:=a0 w hw;unfold sl at h1;unfold LotOk at h2;unfold pzP;dsimp only;omega
   ·rw[if_neg q,ou (show ¬0<(pz2 x y).2.2 by unfold pz2 pzi pzo;dsimp only;omega)];exact(nS (l:=[]) (fun _ _ z hz=>by cases hz)).symm
  ·rw[ow ab c];refine(nS (l:=[x]) fun p hp z hz=>?_).symm;rw[List.mem_singleton.1 hz];unfold apart;rcases List.mem_cons.1 hp with rfl|hp
   ·omega
   ·have:=hs.1 p hp
    unfold sl at this;omega
def HR:∀{ys:LL1} {x:Lot},LotOk x→(∀y∈ys,LotOk y)→ys.Pairwise sl→(∀y∈ys,pzP x y)→(pcIn (pcz ys x)≠[]↔∃y∈ys,¬apart y x)
 | [],x,hx,_,_,_=>by
  unfold LotOk at hx;rw[show pcz [] x=[(x,false)] from if_pos ab];exact⟨fun h=>absurd rfl h,fun⟨_,h,_⟩=>by cases h⟩
 | y::ys,x,hx,ho,hs,hp=>by
  unfold LotOk at hx;rw[eu] at hs;have hy:=ho y au;unfold LotOk at hy;have a0:=hp y au;unfold pzP at a0;by_cases c:y.1=x.1∧y.2.1<x.2.1+x.2.2
  ·rw[qv ⟨ab,c⟩,wR];refine⟨fun _=>⟨y,au,by unfold apart;omega⟩,fun _ h=>?_⟩;have h2:((x.1,x.2.1+pzo x y,pzi x y):Lot)::pcIn (pcz ys (pz2 x y))=[]:=(List.append_eq_nil_iff.1 h).2;cases h2
  ·rw[ow ab c];refine⟨fun h=>absurd rfl h,fun⟨w,hw,hn⟩=>absurd ?_ hn⟩;unfold apart;rcases List.mem_cons.1 hw with rfl|hw
   ·omega
   ·have:=hs.1 w hw
    unfold sl at this;omega
structure SetOk (z:LL1):Prop where
 ok:∀y∈z,LotOk y
 sl:z.Pairwise sl
def Ho{set:LL1}(h:SetOk set){x:Lot}(hx:LotOk x):gx (pcs set x)=fP set x:=by
 obtain⟨l,h1,h2⟩:=qq x set;have hk:=mL x h.sl h.ok;have a1:∀y∈skp x set,LotOk y:=fun y hy=>h.ok y (by rw[h1];exact bD _ hy)
 have a0:(skp x set).Pairwise sl:=by
  have:=h.sl
  rw[h1] at this;exact(List.pairwise_append.1 this).2.1
 unfold pcs;rw[AJ hx a1 a0 hk];have e:fP set x=(l++skp x set).foldl subL [x]:=by unfold fP;rw[←h1]
 have e2:l.foldl subL [x]=[x]:=nS fun p hp z hz=>by
  rw[List.mem_singleton.1 hz];have h3:=h2 p hp;unfold pzP at h3;unfold apart;omega
 rw[e,cB,e2]
def HS{set:LL1}(h:SetOk set){x:Lot}(hx:LotOk x):pcIn (pcs set x)≠[]↔∃y∈set,¬apart y x:=by
 obtain⟨l,h1,h2⟩:=qq x set;have hk:=mL x h.sl h.ok;have a1:∀y∈skp x set,LotOk y:=fun y hy=>h.ok y (by rw[h1];exact bD _ hy)
 have a0:(skp x set).Pairwise sl:=by
  have:=h.sl
  rw[h1] at this;exact(List.pairwise_append.1 this).2.1
 unfold pcs;rw[HR hx a1 a0 hk];constructor
 ·rintro⟨y,hy,hn⟩;exact⟨y,by rw[h1];exact bD _ hy,hn⟩
 ·rintro⟨y,hy,hn⟩;rw[h1] at hy;rcases List.mem_append.1 hy with hy|hy
  ·have h3:=h2 y hy;refine absurd ?_ hn;unfold pzP at h3;unfold apart;omega
  ·exact⟨y,hy,hn⟩
def Ep:∀{ys:LL1} {x:Lot},LotW x→(∀y∈ys,LotOk y)→(∀y∈ys,pzP x y)→ys.Pairwise sl→(∀q∈pcz ys x,LotOk q.1)∧(pcz ys x).length≤2*ys.length+1
 | [],x,hx,_,_,_=>by
  unfold LotW at hx;by_cases h:0<x.2.2
  ·rw[show pcz [] x=[(x,false)] from if_pos h];refine⟨fun q hq=>?_,aI _⟩;rw[List.mem_singleton.1 hq];unfold LotOk;dsimp only;omega
  ·rw[ou h];exact⟨(fun _ h=>by cases h),az _⟩
 | y::ys,x,hx,ho,hp,hs=>by
  rw[eu] at hs;have hy:=ho y au;unfold LotOk at hy;have a1:=hp y au;unfold pzP at a1;have a0:∀w∈ys,LotOk w:=fun w hw=>ho w (aw _ hw);have a2:=hx;unfold LotW at a2;by_cases h:0<x.2.2
  ·by_cases c:y.1=x.1∧y.2.1<x.2.1+x.2.2
   ·rw[qv ⟨h,c⟩];have hw:LotW (pz2 x y):=by unfold LotW pz2 pzi pzo;dsimp only;omega
    obtain⟨i1,i2⟩:=Ep (ys:=ys) hw a0 (fun w hw=>by
     have h1:=hs.1 w hw;have h2:=a0 w hw;unfold sl at h1;unfold LotOk at h2;unfold pzP pz2 pzi pzo;dsimp only;omega) hs.2
    refine⟨fun q hq=>?_,?_⟩
    ·rcases List.mem_append.1 hq with hq|hq
     ·split at hq
      ·rw[List.mem_singleton.1 hq];unfold LotOk;dsimp only;unfold pzo at *;omega
      ·cases hq
     ·rcases List.mem_cons.1 hq with rfl|hq
      ·unfold LotOk;dsimp only;unfold pzi pzo;omega
      ·exact i1 q hq
    ·rw[ax,bE,bE];have:(if 0<pzo x y then[(((x.1,x.2.1,pzo x y):Lot),false)] else[]).length≤1:=by split<;>simp
     omega
   ·rw[ow h c];refine⟨fun q hq=>?_,by simp⟩;rw[List.mem_singleton.1 hq];unfold LotOk;dsimp only;omega
  ·rw[ou h];exact⟨(fun _ h=>by cases h),az _⟩
def Eq{set:LL1}(h:SetOk set){x:Lot}(hx:LotOk x):(∀q∈pcs set x,LotOk q.1)∧(pcs set x).length≤2*set.length+1:=by
 obtain⟨l,h1,h2⟩:=qq x set;have hk:=mL x h.sl h.ok;have a1:∀y∈skp x set,LotOk y:=fun y hy=>h.ok y (by rw[h1];exact bD _ hy)
 have a0:(skp x set).Pairwise sl:=by
  have:=h.sl
  rw[h1] at this;exact(List.pairwise_append.1 this).2.1
 obtain⟨i1,i2⟩:=Ep hx.w a1 hk a0
 have hl:(skp x set).length≤set.length:=by
  have:=congrArg List.length h1
  rw[ax] at this;omega
 exact⟨i1,by unfold pcs;omega⟩
def zst(s:LL1)(x:Lot):LL1 :=
 if s.length≠0∧s[s.length - 1]!.1=x.1∧x.2.1≤s[s.length - 1]!.2.1+s[s.length - 1]!.2.2 then
  s.set (s.length - 1) (s[s.length - 1]!.1,s[s.length - 1]!.2.1,max s[s.length - 1]!.2.2 (x.2.1+x.2.2 - s[s.length - 1]!.2.1))
 else s++[x]
def zset(ys:LL1):LL1:=ys.foldl zst []
def uw(r:LL1)(l:Lot):(r++[l])[(r++[l]).length - 1]! = l:=by
 have h:(r++[l]).length - 1<(r++[l]).length:=by rw[ax,aG];omega
 rw[getElem!_of h,fh (by rw[ax,aG];omega)];simp
def Fy{r:LL1}{l x:Lot}(h:l.1=x.1∧x.2.1≤l.2.1+l.2.2):zst (r++[l]) x=r++[(l.1,l.2.1,max l.2.2 (x.2.1+x.2.2 - l.2.1))]:=by
 unfold zst;rw[uw,if_pos ⟨by rw[ax,aG];omega,h⟩,ax,aG,Nat.add_sub_cancel,List.set_append_right _ _ (aI _),Nat.sub_self];rfl
def GU{r:LL1}{l x:Lot}(h:¬(l.1=x.1∧x.2.1≤l.2.1+l.2.2)):zst (r++[l]) x=r++[l]++[x]:=by
 unfold zst;rw[uw,if_neg (fun q=>h q.2)]
def lE(a b:LL1):lsum (a++b)=lsum a+lsum b:=by
 induction a with
 | nil=>rw[aj,iC];omega
 | cons x a ih=>rw[ak,gy,gy,ih];omega
structure ZI (s P:LL1):Prop where
 ok:∀y∈s,LotOk y
 sl:s.Pairwise sl
 len:s.length≤P.length
 nil:s=[]→P=[]
 top:∀r l,s=r++[l]→(∀y∈P,y.1<l.1∨(y.1=l.1∧y.2.1+y.2.2≤l.2.1+l.2.2))∧(∃y∈P,y.1=l.1∧y.2.1=l.2.1)∧∃y∈P,y.1=l.1∧y.2.1+y.2.2=l.2.1+l.2.2
 le:lsum s≤lsum P
 eq:lsum s=lsum P→Apart P∧∀t,LotOk t→OV s t=OV P t
 ap:Apart P→lsum s=lsum P
def ro{r r' : LL1}{l l' : Lot}(h:r++[l]=r'++[l']):r=r'∧l=l':=by
 obtain⟨h1,h2⟩:=List.append_inj' h rfl;exact⟨h1,by simpa using h2⟩
def apart_snoc_iff{P:LL1}{x:Lot}:Apart (P++[x])↔Apart P∧∀y∈P,apart y x:=by
 constructor
 ·intro h;obtain⟨h1,_,h3⟩:=List.pairwise_append.1 h;exact⟨h1,fun y hy=>h3 y hy x (da _)⟩
 ·rintro⟨h1,h2⟩;exact List.pairwise_append.2 ⟨h1,bq _ _,fun y hy w hw=>by rw[List.mem_singleton.1 hw];exact h2 y hy⟩
def ZI.step{s P:LL1}(h:ZI s P)(hP:∀y∈P,LotOk y){x:Lot}(hx:LotOk x)(ho:∀y∈P,y.1<x.1∨(y.1=x.1∧y.2.1≤x.2.1)):ZI (zst s x) (P++[x]):=by
 have b3:=hx;unfold LotOk at b3;rcases List.eq_nil_or_concat s with rfl|⟨r,l,rfl⟩
 ·have hp:=h.nil rfl;subst hp;have e:zst [] x=[x]:=by unfold zst;rw[if_neg (fun q=>q.1 rfl)];rfl
  rw[e,aj];refine⟨fun y hy=>by rw[List.mem_singleton.1 hy];exact hx,bq _ _,aI _,(fun q=>by cases q),fun r l q=>?_,bG _,fun _=>⟨bq _ _,fun _ _=>rfl⟩,fun _=>rfl⟩;obtain⟨_,rfl⟩:=ro (r:=[]) (l:=x) q;refine⟨fun y hy=>?_,⟨x,da _,rfl,rfl⟩,⟨x,da _,rfl,rfl⟩⟩;rw[List.mem_singleton.1 hy];exact .inr ⟨rfl,bG _⟩
 rw[List.concat_eq_append] at h ⊢;obtain⟨t1,⟨a,ha,a7,a8⟩,⟨b,hb,b0,b4⟩⟩:=h.top r l rfl;have b5:=ho a ha;have hl:=h.ok l (bD _ (da _));unfold LotOk at hl;have a5:=List.pairwise_append.1 h.sl;have a4:∀y∈r,Go.Proofs.YtommnllbflbdmaaGreatDoor.sl y l:=fun y hy=>a5.2.2 y hy l (da _);have a1:=h.len;have b2:=h.le;rw[ax,aG] at a1;rw[lE,ga] at b2;have a0:lsum (P++[x])=lsum P+x.2.2:=by rw[lE,ga]
 have a2:∀t,OV (P++[x]) t=OV P t+ov x t:=fun t=>by rw[gz,jh]
 by_cases c:l.1=x.1∧x.2.1≤l.2.1+l.2.2
 ·rw[Fy c];obtain⟨N,hN⟩:∃N,N=max l.2.2 (x.2.1+x.2.2 - l.2.1):=⟨_,rfl⟩;rw[←hN];have hs:lsum (r++[((l.1,l.2.1,N):Lot)])=lsum r+N:=by rw[lE,ga]
  have he:=h.eq;have a3:=h.ap;rw[lE,ga] at he a3;refine⟨fun y hy=>?_,?_,by rw[ax,ax,aG,aG];omega,(fun q=>by simp at q),fun r2 l2 q=>?_,by rw[hs,a0];omega,fun q=>?_,fun q=>?_⟩
  ·rcases List.mem_append.1 hy with hy|hy
   ·exact h.ok y (bQ _ hy)
   ·rw[List.mem_singleton.1 hy];unfold LotOk;dsimp only;omega
  ·refine List.pairwise_append.2 ⟨a5.1,bq _ _,fun y hy w hw=>?_⟩;rw[List.mem_singleton.1 hw];have:=a4 y hy
   unfold Go.Proofs.YtommnllbflbdmaaGreatDoor.sl at this ⊢;exact this
  ·obtain⟨_,rfl⟩:=ro q;dsimp only;refine⟨fun y hy=>?_,⟨a,bQ _ ha,a7,a8⟩,?_⟩
   ·rcases List.mem_append.1 hy with hy|hy
    ·have:=t1 y hy
     omega
    ·rw[List.mem_singleton.1 hy];omega
   ·by_cases g:x.2.1+x.2.2≤l.2.1+l.2.2
    ·exact⟨b,bQ _ hb,b0,ab⟩
    ·exact⟨x,bD _ (da _),c.1.symm,ab⟩
  ·rw[hs,a0] at q;obtain⟨e1,e2⟩:=he ab;have a9:x.2.1=l.2.1+l.2.2:=ab;have a6:N=l.2.2+x.2.2:=ab;refine⟨apart_snoc_iff.2 ⟨e1,fun y hy=>?_⟩,fun t ht=>?_⟩
   ·have:=t1 y hy
    unfold apart;omega
   ·have e3:=e2 t ht;rw[gz,jh] at e3;unfold LotOk at ht
    have e4:ov (l.1,l.2.1,N) t=ov l t+ov x t:=by
     rw[a6,tD,wT t l.1 l.2.1 l.2.2 x.2.2 ab ab ab,tD l t,tD x t,←a9,c.1];have k1:((x.1,l.2.1,l.2.2):Lot)=l:=Prod.ext c.1.symm rfl;rw[k1]
    rw[gz,jh,a2,e4];omega
  ·obtain⟨q1,q2⟩:=apart_snoc_iff.1 q;have e1:=a3 q1;have e2:=q2 b hb;have e3:=ho b hb;have b1:=hP b hb;unfold LotOk at b1;unfold apart at e2;rw[hs,a0];omega
 ·rw[GU c];have hs:lsum (r++[l]++[x])=lsum (r++[l])+x.2.2:=by rw[lE,ga]
  refine⟨fun y hy=>?_,?_,by rw[ax,ax,ax,aG,aG];omega,(fun q=>by simp at q),fun r2 l2 q=>?_,by rw[hs,a0,lE,ga];omega,fun q=>?_,fun q=>?_⟩
  ·rcases List.mem_append.1 hy with hy|hy
   ·exact h.ok y hy
   ·rw[List.mem_singleton.1 hy];exact hx
  ·refine List.pairwise_append.2 ⟨h.sl,bq _ _,fun y hy w hw=>?_⟩;rw[List.mem_singleton.1 hw];rcases List.mem_append.1 hy with hy|hy
   ·have:=a4 y hy
    unfold Go.Proofs.YtommnllbflbdmaaGreatDoor.sl at this ⊢;omega
   ·rw[List.mem_singleton.1 hy];unfold Go.Proofs.YtommnllbflbdmaaGreatDoor.sl;omega
  ·obtain⟨_,rfl⟩:=ro q;refine⟨fun y hy=>?_,⟨x,bD _ (da _),rfl,rfl⟩,⟨x,bD _ (da _),rfl,rfl⟩⟩;rcases List.mem_append.1 hy with hy|hy
   ·have:=t1 y hy
    have:=ho y hy
    omega
   ·rw[List.mem_singleton.1 hy];exact .inr ⟨rfl,bG _⟩
  ·rw[hs,a0] at q;obtain⟨e1,e2⟩:=h.eq ab;refine⟨apart_snoc_iff.2 ⟨e1,fun y hy=>?_⟩,fun t ht=>?_⟩
   ·have:=t1 y hy
    unfold apart;omega
   ·rw[gz,jh,a2,e2 t ht]
  ·rw[hs,a0,h.ap (apart_snoc_iff.1 q).1]
def vw:∀(Q:LL1) {s P:LL1},ZI s P→(∀y∈P++Q,LotOk y)→(P++Q).Pairwise (fun a b=>¬hdC b a<0)→ZI (Q.foldl zst s) (P++Q)
 | [],s,P,h,_,_=>by rw[aO];exact h
 | x::Q,s,P,h,hl,hs=>by
  have e:P++x::Q=(P++[x])++Q:=by simp
  have hP:∀y∈P,LotOk y:=fun y hy=>hl y (bQ _ hy);have hx:=hl x (bD _ au)
  have h1:ZI (zst s x) (P++[x]):=h.step hP hx fun y hy=>by
   have:=(List.pairwise_append.1 hs).2.2 y hy x au
   rw[mS] at this;unfold klt at this;omega
  rw[e] at hl hs ⊢;exact vw Q h1 hl hs
def lz{ps ys:LL1}(h:eX hdC ps ys)(hl:∀x∈ps,LotOk x):SetOk (zset ys)∧(zset ys).length≤ps.length∧(lsum (zset ys)=lsum ps↔Apart ps)∧(Apart ps→∀t,LotOk t→OV (zset ys) t=OV ps t):=by
 have hy:∀x∈ys,LotOk x:=fun x hx=>hl x (h.1.mem_iff.1 hx);have h0:ZI [] []:=⟨(fun _ q=>by cases q),.nil,aI _,(fun _=>rfl),(fun r l q=>by simp at q),bG _,fun _=>⟨.nil,fun _ _=>rfl⟩,fun _=>rfl⟩;have z:ZI (zset ys) ys:=vw ys h0 hy h.2;have pa:Apart ps↔Apart ys:=(h.1.pairwise_iff (fun {a b} q=>by unfold apart at *;omega)).symm;have a0:lsum ys=lsum ps:=ut h.1;refine⟨⟨z.ok,z.sl⟩,by rw[←h.1.length_eq];exact z.len,?_,fun q t ht=>?_⟩
 ·rw[←a0,pa];exact⟨fun q=>(z.eq q).1,z.ap⟩
 ·rw[(z.eq (z.ap (pa.1 q))).2 t ht];exact Bh h.1 t
end
end Go.Proofs.YtommnllbflbdmaaGreatDoor
namespace Go.V
def DE(ad:OA):Prop:=∃a,ad=some a
def Ev.m8{P:Program}{L:LH}{env:Env}{ty:TypeId}{x:Operand}{ad:OA}{sz j o:Nat}(hx:evE env x=some (.pointer (elP ad sz j o)))(h:DE ad):Ev P L env (.nilCheck x) ty (.pointer (elP ad sz j o)):=by
 obtain⟨g,rfl⟩:=h;exact Ev.nilCheck (a:=Addr.add g (j*sz+o)) hx
def FU{α:Type}{enc:α→LV}{sz E:Nat}{ad:OA}{cap:Nat}{xs:List α}{L R' : LH}[h:PickOsl L ad α enc sz E cap xs R'](h0:0<xs.length):∀θ R w,Sat θ (L++R) w→DE ad:=fun θ R w s=>by
 have s1:Sat θ (osl enc sz E ad cap xs::(R'++R)) w:=s.perm (h.perm.append_right R);obtain⟨_,h1,_,h2⟩:=s1.osl_parts;rcases h2 with⟨_,h3⟩|⟨g,a0,h3,_⟩
 ·omega
 ·exact⟨_,h3⟩
end Go.V
namespace Go.Proofs.YtommnllbflbdmaaGreatDoor
section
open Go.V
attribute [local irreducible] G GO GP GPW GPK Ev Ef EfR Ent CB GB V.Enters
abbrev tBk:Nat:=105
structure BkX where
 cat:CatV
 ms:Nat
 mt:Nat
 mi:Nat
 mr:Nat
 count:Int
 tick:Int
 stk:List ((Int×Int)×Stk)
 tot:List (Int×Int)
 imp:List (Int×Stk)
 ret:List (Int×Stk)
 flows:List FlV
 fad:OA
 fcap:Nat
abbrev bP(sh:Int)(x:BkX):LV:=[ac sh,ae x.cat.iad x.cat.items.length x.cat.icap,ae x.cat.rad x.cat.rules.length x.cat.rcap,ae x.cat.tad x.cat.tables.length x.cat.tcap,ae x.cat.xad x.cat.taxes.length x.cat.xcap,ac x.count,ac x.tick,.map (some x.ms),.map (some x.mt),ae x.fad x.flows.length x.fcap,.map (some x.mi),.map (some x.mr)]
abbrev bkL(b:Nat)(sh:Int)(x:BkX)(L:LH):LH :=
 obj b tBk (bP sh x)::gmap kvP Stk.v x.ms x.stk::gmap kvI encN x.mt x.tot::osl bT 11 dz x.fad x.fcap x.flows::gmap kvI Stk.v x.mi x.imp::gmap kvI Stk.v x.mr x.ret::catP x.cat::allP (fun p:(Int×Int)×Stk=>stkP p.2) x.stk::allP flP x.flows::bigO fO x.imp::bigO fO x.ret::L
def fg(fl:List FlM):LL1:=(fl.filter (fun f=>decide (f.kind=5))).flatMap (·.parts)
def eG(fl:List FlM):LL1:=(fl.filter (fun f=>decide (f.kind=9∧f.frm=0))).flatMap (·.parts)
def lS(m:List (Int×Stk))(l:LL1):Prop:=(m.map (·.1)).Nodup∧∀f,(fu m f).lots=ofF l f
def impG(sh:Int):LL1→LL1→Int
 | [],_=>0
 | p::ps,l=>if p.1 / 4294967296=sh∨11<p.1 / 4294967296 then 1 else if ∃y∈ofF l p.1,ovP p y then 8 else impG sh ps (l++[p])
def rv(l:LL1)(p:Lot)(f:Int):ofF (l++[p]) f=if p.1=f then ofF l f++[p] else ofF l f:=by
 unfold ofF;rw[dG];by_cases e:p.1=f
 ·rw[if_pos e,cO (by simpa using e)];rfl
 ·rw[if_neg e,cP (by simpa using e),List.filter_nil,aO]
def pL{sh:Int}{p:Lot}{ps l:LL1}:impG sh (p::ps) l=if p.1 / 4294967296=sh∨11<p.1 / 4294967296 then 1 else if ∃y∈ofF l p.1,ovP p y then 8 else impG sh ps (l++[p]):=rfl
abbrev zJ:=ar5 [.ef 8]
abbrev zI:=ar7 [.ev 13,.ef 14,.ef 15,.ef 16]
def Ot{φ ψ:Prop}(k:ψ)(h:Hid ψ→φ:=by intro k;(repeat (first|refine aa ?_|intro zzz|refine G.dr 54 7 zJ ?_|refine G.dr 54 9 zI ?_));(repeat revert zzz);exact Hid.out k):φ:=h ⟨k⟩
def rB{L:LH}(b:Nat)(sh:Int)(x:BkX)(l:LL1)(hm:lS x.imp l)(hl:l.length≤100000)(b0:∀y∈l,LotOk y)(m:MvV)[hr:Rds L m.pad Lot ay 3 m.m.parts](hp:∀p∈m.m.parts,LotOk p)(hb:∀p∈m.m.parts,p.1≤9223372036854775807)(b4:m.m.parts.length≤4096) :
  Tri ai 151 #[aq b,aN (aT m)] (obj b tBk (bP sh x)::gmap kvI Stk.v x.mi x.imp::bigO fO x.imp::L) (fun v L'=>∃a2,v=ac (impG sh m.m.parts l)∧(impG sh m.m.parts l=0→lS a2 (l++m.m.parts))∧L' = obj b tBk (bP sh x)::gmap kvI Stk.v x.mi a2::bigO fO a2::L):=by
 obtain⟨⟨frm,to,item,mn,parts⟩,pad,pcap⟩:=m;dsimp only at hr hp hb b4 ⊢;refine Tri.bd (args:=[aq b,aN (aT ⟨⟨frm,to,item,mn,parts⟩,pad,pcap⟩)]) ?_;simp only[aT,bP];refine Ot ?_;intros;rename_i b3;refine G.loop (α:=Nat×List (Int×Stk)) (fun g=>g.1≤parts.length∧lS g.2 (l++parts.take g.1)∧impG sh parts l=impG sh (parts.drop g.1) (l++parts.take g.1)) (fun g=>[(0,aq b),(9,ae pad parts.length pcap),(10,ac parts.length),(11,ac (g.1:Int))]) (fun g=>obj b tBk (bP sh x)::gmap kvI Stk.v x.mi g.2::bigO fO g.2::L) (fun g=>parts.length - g.1) (0,x.imp) ⟨az _,by rw[bC,aO];exact hm,by rw[bC,aO];rfl⟩ an (by simp only[bP];exact ah) ?_;rintro⟨i,mp⟩ ⟨hi,a0,hg⟩;dsimp only at hi a0 hg ⊢;simp only[bP];by_cases a3:i<parts.length
 case neg =>
  rw[bM ab,aB ab] at hg;rw[aB ab] at a0;have a9:impG sh parts l=0:=hg;rw[a9];refine Ot ?_;intros;exact KX.en ⟨mp,rfl,fun _=>a0,rfl⟩
 have a7:(i:Int).toNat=i:=aD i;have b1 : (i:Int).toNat<parts.length:=ab;have b2:=hp _ (aL a3);have b6:=hb _ (aL a3);rw[fA a3,pL] at hg;refine Ot ?_;intros;refine GO.ev (Ev.C1 rfl rfl) ag ?_;refine Ot ?_;intros;have a6 : LotOk parts[(i:Int).toNat]!:=by rw[a7];exact b2
 have b5:∀y∈ofF (l++parts.take i) parts[(i:Int).toNat]!.1,LotW y:=fun y hy=>by
  rcases List.mem_append.1 (ofF_mem.1 hy).1 with h|h
  ·exact(b0 y h).w
  ·exact(hp y (cz h)).w
 have b7:(ofF (l++parts.take i) parts[(i:Int).toNat]!.1).length≤110000:=by
  refine cN (qx _ _) ?_;rw[ax,bg];omega
 have e1:parts[(i:Int).toNat]! = parts[i]!:=by rw[a7]
 rw[←e1] at hg;by_cases c1:parts[(i:Int).toNat]!.1 / 4294967296=sh
 ·rw[if_pos (.inl c1)] at hg;rw[hg];refine Ot ?_;intros;refine KX.d7 av ?_ ⟨mp,rfl,fun h=>absurd h ag,rfl⟩;exact ah
 by_cases c2:11<parts[(i:Int).toNat]!.1 / 4294967296
 ·rw[if_pos (.inr c2)] at hg;rw[hg];refine Ot ?_;intros;refine KX.d7 av ?_ ⟨mp,rfl,fun h=>absurd h ag,rfl⟩;exact ah
 rw[if_neg (fun q=>q.elim c1 c2)] at hg;refine Ot ?_;intros;have hv:=qp mp parts[(i:Int).toNat]!.1;have a5:=a0.2 parts[(i:Int).toNat]!.1;rw[a5] at hv;unfold glk at hv;refine GPW.ent (Ent.at (A:=bigO fO mp) (rm (f:=parts[(i:Int).toNat]!.1) a0.1)) ?_;rw[a5];refine GPW.evL (Ev.d8 rfl rfl) ag ?_;rw[hv];refine Ot ?_;intros;refine GPW.cr (oW _ _ _ (ofF (l++parts.take i) parts[(i:Int).toNat]!.1) parts[(i:Int).toNat]! rfl ab b5 a6.w) ?_;by_cases c3:∃y∈ofF (l++parts.take i) parts[(i:Int).toNat]!.1,ovP parts[(i:Int).toNat]! y
 ·rw[if_pos c3] at hg;rw[hg,aZ c3];refine Ot ?_;intros;refine KX.d7 av ?_ ⟨mp,rfl,fun h=>absurd h ag,rfl⟩;rw[←a5];refine Ent.trans ?_ (Ent.d7 (Ent.swap (A:=bigO fO mp)));refine Ent.trans ?_ Ent.swap;refine Ent.trans ?_ (vO (f:=parts[(i:Int).toNat]!.1) a0.1);exact ah
 rw[if_neg c3] at hg;rw[aM c3];refine Ot ?_;intros;refine GPW.evL (Ev.d8 rfl rfl) ag ?_;rw[hv];refine Ot ?_;intros;refine GPK.keep (by rw[←hv];exact Ev.d8 rfl rfl) ?_;refine Ot ?_;intros;refine GPW.ef (Ef.d7 (enc:=ay) (e:=parts[(i:Int).toNat]!) rfl rfl rfl rfl rfl aJ (dH _) ab ab) ag ?_;rintro _ _⟨a4,a1,rfl,rfl⟩;refine Ot ?_;intros;refine GPW.efu (Ef.e9 (enc:=Stk.v) (e:=(⟨a4,a1,ofF (l++parts.take i) parts[(i:Int).toNat]!.1++[parts[(i:Int).toNat]!]⟩:Stk)) rfl rfl rfl rfl) ?_;rintro _ _⟨rfl,rfl⟩
 have a8:l++parts.take (i+1)=l++parts.take i++[parts[(i:Int).toNat]!]:=by
  rw[e1,aC a3,getElem!_of a3,aF]
 refine Ot ?_;intros;refine⟨(i+1,gins mp parts[(i:Int).toNat]!.1 ⟨a4,a1,ofF (l++parts.take i) parts[(i:Int).toNat]!.1++[parts[(i:Int).toNat]!]⟩),⟨by dsimp only;omega,⟨me a0.1,fun f=>?_⟩,by dsimp only;rw[a8];exact hg⟩,by dsimp only;omega,?_,?_⟩
 ·dsimp only;rw[nX,a8,rv];by_cases e:parts[(i:Int).toNat]!.1=f
  ·rw[if_pos e.symm,if_pos e,e]
  ·rw[if_neg (fun q=>e q.symm),if_neg e];exact a0.2 f
 ·dsimp only;rw[aU i];exact an
 ·dsimp only;refine Ent.trans ?_ (Ent.d7 (Ent.swap (A:=bigO fO _)));refine Ent.trans ?_ Ent.swap;refine Ent.trans ?_ (pk (f:=parts[(i:Int).toNat]!.1) a0.1 ⟨a4,a1,ofF (l++parts.take i) parts[(i:Int).toNat]!.1++[parts[(i:Int).toNat]!]⟩);exact ah
end
section
open Go.V
def FlA(fl:List FlM):Prop:=∀f∈fl,(∀x∈f.parts,LotOk x)∧((f.kind=5∨(f.kind=9∧f.frm=0))→Apart f.parts)
def impAll_mem{fl:List FlM}{y:Lot}:y∈fg fl↔∃f∈fl,f.kind=5∧y∈f.parts:=by
 unfold fg;rw[List.mem_flatMap];constructor
 ·rintro⟨f,hf,hy⟩;obtain⟨h1,h2⟩:=List.mem_filter.1 hf;exact⟨f,h1,of_decide_eq_true h2,hy⟩
 ·rintro⟨f,hf,hk,hy⟩;exact⟨f,List.mem_filter.2 ⟨hf,decide_eq_true hk⟩,hy⟩
def retAll_mem{fl:List FlM}{y:Lot}:y∈eG fl↔∃f∈fl,(f.kind=9∧f.frm=0)∧y∈f.parts:=by
 unfold eG;rw[List.mem_flatMap];constructor
 ·rintro⟨f,hf,hy⟩;obtain⟨h1,h2⟩:=List.mem_filter.1 hf;exact⟨f,h1,of_decide_eq_true h2,hy⟩
 ·rintro⟨f,hf,hk,hy⟩;exact⟨f,List.mem_filter.2 ⟨hf,decide_eq_true hk⟩,hy⟩
def uz{fl:List FlM}(h:FlA fl):∀y∈fg fl,LotOk y:=fun y hy=>by
 obtain⟨f,hf,_,hy⟩:=impAll_mem.1 hy;exact(h f hf).1 y hy
def ui{fl:List FlM}(h:FlA fl):∀y∈eG fl,LotOk y:=fun y hy=>by
 obtain⟨f,hf,_,hy⟩:=retAll_mem.1 hy;exact(h f hf).1 y hy
def Fm{fl:List FlM}(h:FlA fl){p:Lot}(hp:LotOk p):oM fl p↔∃y∈ofF (fg fl) p.1,ovP p y:=by
 unfold oM;constructor
 ·rintro⟨f,hf,hk,hm⟩;obtain⟨y,hy,h1,h2⟩:=(oD (h f hf).1 ((h f hf).2 (.inl hk)) hp).1 hm;exact⟨y,ofF_mem.2 ⟨impAll_mem.2 ⟨f,hf,hk,hy⟩,h1⟩,h2⟩
 ·rintro⟨y,hy,h2⟩;obtain⟨hy,h1⟩:=ofF_mem.1 hy;obtain⟨f,hf,hk,hy⟩:=impAll_mem.1 hy;exact⟨f,hf,hk,(oD (h f hf).1 ((h f hf).2 (.inl hk)) hp).2 ⟨y,hy,h1,h2⟩⟩
def xn{sh:Int}{fl:List FlM}(h:FlA fl):∀(ps dn:LL1),(∀p∈ps,LotOk p)→Apart ps→(∀d∈dn,∀p∈ps,apart d p)→impG sh ps (fg fl++dn)=arrG sh fl ps
 | [],_,_,_,_=>rfl
 | p::ps,dn,h1,h2,h3=>by
  obtain⟨a1,a2⟩:=List.pairwise_cons.1 h2;have hp:=h1 p au
  have ih:=xn (sh:=sh) h ps (dn++[p]) (fun q hq=>h1 q (aw _ hq)) a2 (fun d hd q hq=>by
   rcases List.mem_append.1 hd with hd|hd
   ·exact h3 d hd q (aw _ hq)
   ·rw[List.mem_singleton.1 hd];exact a1 q hq)
  have e:(∃y∈ofF (fg fl++dn) p.1,ovP p y)↔oM fl p:=by
   rw[Fm h hp];constructor
   ·rintro⟨y,hy,h4⟩;obtain⟨hy,h5⟩:=ofF_mem.1 hy;rcases List.mem_append.1 hy with hy|hy
    ·exact⟨y,ofF_mem.2 ⟨hy,h5⟩,h4⟩
    ·have:=h3 y hy p au
     unfold apart at this;unfold ovP at h4;omega
   ·rintro⟨y,hy,h4⟩;obtain⟨hy,h5⟩:=ofF_mem.1 hy;exact⟨y,ofF_mem.2 ⟨bQ _ hy,h5⟩,h4⟩
  rw[pL];show _=if arr1 sh fl p=0 then arrG sh fl ps else arr1 sh fl p;unfold arr1;by_cases c1:p.1 / 4294967296=sh∨11<p.1 / 4294967296
  ·rw[if_pos c1,if_pos c1,if_neg ag]
  ·rw[if_neg c1,if_neg c1];by_cases c2:oM fl p
   ·rw[if_pos (e.2 c2),if_pos c2,if_neg ag]
   ·rw[if_neg (fun q=>c2 (e.1 q)),if_neg c2,if_pos rfl,aF];exact ih
def AS{sh:Int}{fl:List FlM}(h:FlA fl){ps:LL1}(h1:∀p∈ps,LotOk p)(h2:Apart ps):impG sh ps (fg fl)=arrG sh fl ps:=by
 have:=xn (sh:=sh) h ps [] h1 h2 (fun d hd=>absurd hd aH)
 rwa [aO] at this
end
section
open Go.V
attribute [local irreducible] G GO GP GPW GPK Ev Ef EfR Ent CB GB V.Enters
def gotB(sh:Int)(fl:List FlM)(item:Int)(p:Lot):Prop:=(0≤p.1 - sh*4294967296∧p.1 - sh*4294967296<fl.length)∧fl[(p.1 - sh*4294967296).toNat]!.to=0∧fl[(p.1 - sh*4294967296).toNat]!.kind≠6∧fl[(p.1 - sh*4294967296).toNat]!.item=item∧p.2.1+p.2.2≤fl[(p.1 - sh*4294967296).toNat]!.n
instance (sh:Int)(fl:List FlM)(item:Int)(p:Lot):Decidable (gotB sh fl item p):=by unfold gotB;infer_instance
def retG(sh:Int)(fl:List FlM)(item:Int):LL1→LL1→Int
 | [],_=>0
 | p::ps,l=>if gotB sh fl item p∧¬ ∃y∈ofF l p.1,ovP p y then retG sh fl item ps (l++[p]) else 10
def lZ{sh:Int}{fl:List FlM}{item:Int}{p:Lot}{ps l:LL1}:retG sh fl item (p::ps) l=if gotB sh fl item p∧¬ ∃y∈ofF l p.1,ovP p y then retG sh fl item ps (l++[p]) else 10:=rfl
abbrev zH:=ar5 [.ev 8]
abbrev zG:=ar8 [.ev 18,.ev 19,.ef 17,.ev 20,.ev 21,.ev 22,.ev 23,.ev 24,.ev 25,.ev 26,.ev 27,.ev 28,.ev 29,.ev 30,.ef 31,.ev 32]
abbrev wK:=ar7 [.ev 13,.ef 14,.ef 15,.ef 16]
def cK{φ ψ:Prop}(k:ψ)(h:Hid ψ→φ:=by intro k;(with_reducible apply G.d7);first|refine G.dr 92 4 zH (Hid.out k)|refine G.dr 92 8 zG (Hid.out k)|refine G.dr 92 10 wK (Hid.out k)):φ:=h ⟨k⟩
def OI{φ ψ:Prop}(k:ψ)(h:Hid ψ→φ:=by intro k;(repeat (first|refine aa ?_|intro zzz|refine cK ?_));(repeat revert zzz);exact Hid.out k):φ:=h ⟨k⟩
def rq{L:LH}(b:Nat)(sh:Int)(d1:0≤sh∧sh<12)(x:BkX)(d3:x.flows.length≤9000000)(l:LL1)(hm:lS x.ret l)(hl:l.length≤100000)(c8:∀y∈l,LotOk y)(m:MvV)[hr:Rds L m.pad Lot ay 3 m.m.parts](hp:∀p∈m.m.parts,LotOk p)(hb:∀p∈m.m.parts,p.1≤9223372036854775807)(d0:m.m.parts.length≤4096) :
  Tri ai 152 #[aq b,aN (aT m)] (obj b tBk (bP sh x)::osl bT 11 dz x.fad x.fcap x.flows::gmap kvI Stk.v x.mr x.ret::bigO fO x.ret::L) (fun v L'=>∃a5,v=ac (retG sh (x.flows.map (·.m)) m.m.item m.m.parts l)∧(retG sh (x.flows.map (·.m)) m.m.item m.m.parts l=0→lS a5 (l++m.m.parts))∧L' = obj b tBk (bP sh x)::osl bT 11 dz x.fad x.fcap x.flows::gmap kvI Stk.v x.mr a5::bigO fO a5::L):=by
 obtain⟨⟨frm,to,item,mn,parts⟩,pad,pcap⟩:=m;dsimp only at hr hp hb d0 ⊢;generalize hfe:x.flows.map (·.m)=fl;have b9:fl.length=x.flows.length:=by rw[←hfe,aA]
 refine Tri.bd (args:=[aq b,aN (aT ⟨⟨frm,to,item,mn,parts⟩,pad,pcap⟩)]) ?_;simp only[aT,bP];refine OI ?_;intros;rename_i b3;refine G.loop (α:=Nat×List (Int×Stk)) (fun g=>g.1≤parts.length∧lS g.2 (l++parts.take g.1)∧retG sh fl item parts l=retG sh fl item (parts.drop g.1) (l++parts.take g.1)) (fun g=>[(0,aq b),(3,aq b3),(10,ae pad parts.length pcap),(11,ac parts.length),(12,ac (g.1:Int))]) (fun g=>obj b3 tMv [ac frm,ac to,ac item,ac mn,ae pad parts.length pcap]::obj b tBk (bP sh x)::osl bT 11 dz x.fad x.fcap x.flows::gmap kvI Stk.v x.mr g.2::bigO fO g.2::L) (fun g=>parts.length - g.1) (0,x.ret) ⟨az _,by rw[bC,aO];exact hm,by rw[bC,aO];rfl⟩ an (by simp only[bP];exact ah) ?_;rintro⟨i,mp⟩ ⟨hi,a3,hg⟩;dsimp only at hi a3 hg ⊢;simp only[bP];by_cases a7:i<parts.length
 case neg =>
  rw[bM ab,aB ab] at hg;rw[aB ab] at a3;have c0:retG sh fl item parts l=0:=hg;rw[c0];refine OI ?_;intros;refine KX.d7 av ?_ ⟨mp,rfl,fun _=>a3,rfl⟩;exact ah
 have b6:(i:Int).toNat=i:=aD i;have c9 : (i:Int).toNat<parts.length:=ab;have e1:parts[(i:Int).toNat]! = parts[i]!:=by rw[b6]
 have a4 : LotOk parts[(i:Int).toNat]!:=by rw[b6];exact hp _ (aL a7)
 have b8:=hb _ (aL a7);rw[←e1] at b8;have b0:=a4;unfold LotOk at b0;rw[fA a7,lZ,←e1] at hg
 have d2:∀y∈ofF (l++parts.take i) parts[(i:Int).toNat]!.1,LotW y:=fun y hy=>by
  rcases List.mem_append.1 (ofF_mem.1 hy).1 with h|h
  ·exact(c8 y h).w
  ·exact(hp y (cz h)).w
 have d4:(ofF (l++parts.take i) parts[(i:Int).toNat]!.1).length≤110000:=by
  refine cN (qx _ _) ?_;rw[ax,bg];omega
 have hv:=qp mp parts[(i:Int).toNat]!.1;have a9:=a3.2 parts[(i:Int).toNat]!.1;rw[a9] at hv;unfold glk at hv;refine G.ent (L':=osl ay 3 tLot (fu mp parts[(i:Int).toNat]!.1).ad (fu mp parts[(i:Int).toNat]!.1).cap (ofF (l++parts.take i) parts[(i:Int).toNat]!.1)::bigO fO (gera mp parts[(i:Int).toNat]!.1)::obj b3 tMv [ac frm,ac to,ac item,ac mn,ae pad parts.length pcap]::obj b tBk (bP sh x)::osl bT 11 dz x.fad x.fcap x.flows::gmap kvI Stk.v x.mr mp::L) ?_ ?_
 ·refine(Ent.at (A:=bigO fO mp) (rm (f:=parts[(i:Int).toNat]!.1) a3.1)).trans ?_;rw[a9];exact ah
 have a0:Ent (osl ay 3 tLot (fu mp parts[(i:Int).toNat]!.1).ad (fu mp parts[(i:Int).toNat]!.1).cap (ofF (l++parts.take i) parts[(i:Int).toNat]!.1)::bigO fO (gera mp parts[(i:Int).toNat]!.1)::obj b tBk (bP sh x)::osl bT 11 dz x.fad x.fcap x.flows::gmap kvI Stk.v x.mr mp::L) (obj b tBk (bP sh x)::osl bT 11 dz x.fad x.fcap x.flows::gmap kvI Stk.v x.mr mp::bigO fO mp::L):=by
  rw[←a9];exact(vO (f:=parts[(i:Int).toNat]!.1) a3.1).trans ah
 simp only[bP] at a0 ⊢;refine OI ?_;intros;refine GPW.evP (Ev.o6 rfl rfl ab ab) ag ?_;have b1:sh*4294967296≤12*4294967296:=cF ab ag;have b2:0≤sh*4294967296:=ed d1.1 ag;obtain⟨sk,b4⟩:∃sk,sk=sh*4294967296:=⟨_,rfl⟩;have a2:¬gotB sh fl item parts[(i:Int).toNat]!→retG sh fl item parts l=10:=fun q=>by rw[hg,if_neg (fun h=>q h.1)]
 unfold gotB at a2;rw[←b4] at b1 b2 a2;rw[←b4];by_cases c1:0≤parts[(i:Int).toNat]!.1 - sk
 case neg =>
  rw[a2 (fun q=>c1 q.1.1)];refine OI ?_;intros;refine KX.d7 av ?_ ⟨mp,rfl,fun h=>absurd h ag,rfl⟩;exact Ent.trans ah a0
 by_cases c2:parts[(i:Int).toNat]!.1 - sk<fl.length
 case neg =>
  rw[a2 (fun q=>c2 q.1.2)];refine OI ?_;intros;refine KX.d7 av ?_ ⟨mp,rfl,fun h=>absurd h ag,rfl⟩;exact Ent.trans ah a0
 have hk:(parts[(i:Int).toNat]!.1 - sk).toNat<x.flows.length:=ab;have b5:fl[(parts[(i:Int).toNat]!.1 - sk).toNat]! = x.flows[(parts[(i:Int).toNat]!.1 - sk).toNat]!.m:=by rw[←hfe,eD _ hk]
 rw[b5] at a2;repeat first|refine G.sn 8 ?_|refine bF ?_|intro _|refine cK ?_
 generalize hfv:x.flows[(parts[(i:Int).toNat]!.1 - sk).toNat]! = fv at *;by_cases c3:fv.m.to=0
 case neg =>
  rw[a2 (fun q=>c3 q.2.1)];refine OI ?_;intros;refine KX.d7 av ?_ ⟨mp,rfl,fun h=>absurd h ag,rfl⟩;exact Ent.trans ah a0
 by_cases c4:fv.m.kind=6
 case pos =>
  rw[a2 (fun q=>q.2.2.1 c4)];refine OI ?_;intros;refine KX.d7 av ?_ ⟨mp,rfl,fun h=>absurd h ag,rfl⟩;exact Ent.trans ah a0
 by_cases c5:fv.m.item=item
 case neg =>
  rw[a2 (fun q=>c5 q.2.2.2.1)];refine OI ?_;intros;refine KX.d7 av ?_ ⟨mp,rfl,fun h=>absurd h ag,rfl⟩;exact Ent.trans ah a0
 by_cases c6:parts[(i:Int).toNat]!.2.1+parts[(i:Int).toNat]!.2.2≤fv.m.n
 case neg =>
  rw[a2 (fun q=>c6 q.2.2.2.2)];refine OI ?_;intros;refine GPW.cr (jg parts[(i:Int).toNat]! a4.w) ?_;refine OI ?_;intros;refine KX.d7 av ?_ ⟨mp,rfl,fun h=>absurd h ag,rfl⟩;exact Ent.trans ah a0
 have a8:gotB sh fl item parts[(i:Int).toNat]!:=by
  unfold gotB;rw[←b4,b5];exact⟨⟨c1,c2⟩,c3,c4,c5,c6⟩
 clear a2;refine OI ?_;intros;refine GPW.cr (jg parts[(i:Int).toNat]! a4.w) ?_;refine OI ?_;intros;refine GPW.evL (Ev.d8 rfl rfl) ag ?_;rw[hv];refine OI ?_;intros;refine GPW.cr (oW _ _ _ (ofF (l++parts.take i) parts[(i:Int).toNat]!.1) parts[(i:Int).toNat]! rfl ab d2 a4.w) ?_;by_cases c7:∃y∈ofF (l++parts.take i) parts[(i:Int).toNat]!.1,ovP parts[(i:Int).toNat]! y
 ·rw[if_neg (fun q=>q.2 c7)] at hg;rw[hg,aZ c7];refine OI ?_;intros;refine KX.d7 av ?_ ⟨mp,rfl,fun h=>absurd h ag,rfl⟩;exact Ent.trans ah a0
 rw[if_pos ⟨a8,c7⟩] at hg;rw[aM c7];refine OI ?_;intros;refine GPW.evL (Ev.d8 rfl rfl) ag ?_;rw[hv];refine OI ?_;intros;refine GPK.keep (by rw[←hv];exact Ev.d8 rfl rfl) ?_;refine OI ?_;intros;refine GPW.ef (Ef.d7 (enc:=ay) (e:=parts[(i:Int).toNat]!) rfl rfl rfl rfl rfl aJ (dH _) ab ab) ag ?_;rintro _ _⟨a6,a1,rfl,rfl⟩;refine OI ?_;intros;refine GPW.efu (Ef.e9 (enc:=Stk.v) (e:=(⟨a6,a1,ofF (l++parts.take i) parts[(i:Int).toNat]!.1++[parts[(i:Int).toNat]!]⟩:Stk)) rfl rfl rfl rfl) ?_;rintro _ _⟨rfl,rfl⟩
 have b7:l++parts.take (i+1)=l++parts.take i++[parts[(i:Int).toNat]!]:=by
  rw[e1,aC a7,getElem!_of a7,aF]
 refine OI ?_;intros;refine⟨(i+1,gins mp parts[(i:Int).toNat]!.1 ⟨a6,a1,ofF (l++parts.take i) parts[(i:Int).toNat]!.1++[parts[(i:Int).toNat]!]⟩),⟨by dsimp only;omega,⟨me a3.1,fun f=>?_⟩,by dsimp only;rw[b7];exact hg⟩,by dsimp only;omega,?_,?_⟩
 ·dsimp only;rw[nX,b7,rv];by_cases e:parts[(i:Int).toNat]!.1=f
  ·rw[if_pos e.symm,if_pos e,e]
  ·rw[if_neg (fun q=>e q.symm),if_neg e];exact a3.2 f
 ·dsimp only;rw[aU i];exact an
 ·dsimp only;refine Ent.trans ?_ (Ent.at (A:=bigO fO (gins mp parts[(i:Int).toNat]!.1 ⟨a6,a1,ofF (l++parts.take i) parts[(i:Int).toNat]!.1++[parts[(i:Int).toNat]!]⟩)) (L:=bigO fO (gins mp parts[(i:Int).toNat]!.1 ⟨a6,a1,ofF (l++parts.take i) parts[(i:Int).toNat]!.1++[parts[(i:Int).toNat]!]⟩)::obj b3 tMv [ac frm,ac to,ac item,ac mn,ae pad parts.length pcap]::obj b tBk (bP sh x)::osl bT 11 dz x.fad x.fcap x.flows::gmap kvI Stk.v x.mr (gins mp parts[(i:Int).toNat]!.1 ⟨a6,a1,ofF (l++parts.take i) parts[(i:Int).toNat]!.1++[parts[(i:Int).toNat]!]⟩)::L) (by simp only[bP];exact ah));refine Ent.trans ?_ (pk (f:=parts[(i:Int).toNat]!.1) a3.1 ⟨a6,a1,ofF (l++parts.take i) parts[(i:Int).toNat]!.1++[parts[(i:Int).toNat]!]⟩);exact ah
end
section
open Go.V
def FlN(sh:Int)(fl:List FlM):Prop:=∀k,k<fl.length→fl[k]!.id=sh*4294967296+k∧1≤fl[k]!.n∧fl[k]!.n≤1099511627776
def Az{p:Lot}{id n:Int}(hp:LotOk p)(hi:0≤id)(h1:1≤n)(h2:n≤1099511627776):iy [p] [(id,0,n)]↔p.1=id∧p.2.1+p.2.2≤n:=by
 have hx:LotOk (id,0,n):=⟨hi,bG _,by dsimp only;omega,h1,by dsimp only;omega⟩;have one:∀y:Lot,Apart [y]:=fun y=>bq _ _;rw[nV (DS hp) (one p) (DS hx) (one _),gy,iC];show p.2.2+0 - ((ov p (id,0,n)+0)+0)=0↔_;unfold LotOk at hp;unfold ov;dsimp only;by_cases e:p.1=id
 ·rw[if_pos e];omega
 ·rw[if_neg e];omega
def Fo{sh:Int}{fl:List FlM}(a0:0≤sh)(h:FlA fl)(hn:FlN sh fl)(item:Int){p:Lot}(hp:LotOk p):oP fl item p↔gotB sh fl item p∧¬ ∃y∈ofF (eG fl) p.1,ovP p y:=by
 have a1:0≤sh*4294967296:=ed a0 ag
 have hA:(∃f∈fl,f.kind=9∧f.frm=0∧nj f.parts [p]≠[])↔∃y∈ofF (eG fl) p.1,ovP p y:=by
  constructor
  ·rintro⟨f,hf,hk,hz,hm⟩;obtain⟨y,hy,h1,h2⟩:=(oD (h f hf).1 ((h f hf).2 (.inr ⟨hk,hz⟩)) hp).1 hm;exact⟨y,ofF_mem.2 ⟨retAll_mem.2 ⟨f,hf,⟨hk,hz⟩,hy⟩,h1⟩,h2⟩
  ·rintro⟨y,hy,h2⟩;obtain⟨hy,h1⟩:=ofF_mem.1 hy;obtain⟨f,hf,hk,hy⟩:=retAll_mem.1 hy;exact⟨f,hf,hk.1,hk.2,(oD (h f hf).1 ((h f hf).2 (.inr hk)) hp).2 ⟨y,hy,h1,h2⟩⟩
 have hB:(∃f∈fl,f.kind≠6∧f.to=0∧f.item=item∧iy [p] [(f.id,0,f.n)])↔gotB sh fl item p:=by
  constructor
  ·rintro⟨f,hf,h1,h2,h3,h4⟩;obtain⟨k,hk,rfl⟩:=List.mem_iff_getElem.1 hf;obtain⟨g1,g2,g3⟩:=hn k hk;rw[getElem!_of hk] at g1 g2 g3;obtain⟨g4,g5⟩:=(Az hp ab g2 g3).1 h4;have e:(p.1 - sh*4294967296).toNat=k:=ab;unfold gotB;rw[e,getElem!_of hk];exact⟨⟨ab,ab⟩,h2,h1,h3,g5⟩
  ·rintro⟨⟨h1,h2⟩,h3,h4,h5,h6⟩;have hk:(p.1 - sh*4294967296).toNat<fl.length:=ab;obtain⟨g1,g2,g3⟩:=hn _ hk;exact⟨_,aL hk,h4,h3,h5,(Az hp ab g2 g3).2 ⟨ab,h6⟩⟩
 unfold oP;rw[hA,hB];exact And.comm
def wh{sh:Int}{fl:List FlM}(a0:0≤sh)(h:FlA fl)(hn:FlN sh fl)(item:Int):∀(ps dn:LL1),(∀p∈ps,LotOk p)→Apart ps→(∀d∈dn,∀p∈ps,apart d p)→retG sh fl item ps (eG fl++dn)=revG fl item ps
 | [],_,_,_,_=>by
  unfold revG;rw[if_pos (fun p hp=>absurd hp aH)];rfl
 | p::ps,dn,h1,h2,h3=>by
  obtain⟨a1,a2⟩:=List.pairwise_cons.1 h2;have hp:=h1 p au
  have ih:=wh a0 h hn item ps (dn++[p]) (fun q hq=>h1 q (aw _ hq)) a2 (fun d hd q hq=>by
   rcases List.mem_append.1 hd with hd|hd
   ·exact h3 d hd q (aw _ hq)
   ·rw[List.mem_singleton.1 hd];exact a1 q hq)
  have e:(∃y∈ofF (eG fl++dn) p.1,ovP p y)↔∃y∈ofF (eG fl) p.1,ovP p y:=by
   constructor
   ·rintro⟨y,hy,h4⟩;obtain⟨hy,h5⟩:=ofF_mem.1 hy;rcases List.mem_append.1 hy with hy|hy
    ·exact⟨y,ofF_mem.2 ⟨hy,h5⟩,h4⟩
    ·have:=h3 y hy p au
     unfold apart at this;unfold ovP at h4;omega
   ·rintro⟨y,hy,h4⟩;obtain⟨hy,h5⟩:=ofF_mem.1 hy;exact⟨y,ofF_mem.2 ⟨bQ _ hy,h5⟩,h4⟩
  have hb:=Fo a0 h hn item hp;rw[←e] at hb;rw[lZ,aF,ih];unfold revG;by_cases c:oP fl item p
  ·rw[if_pos (hb.1 c)];by_cases c2:∀q∈ps,oP fl item q
   ·rw[if_pos c2,if_pos (fun q hq=>by
     rcases List.mem_cons.1 hq with rfl|hq
     ·exact c
     ·exact c2 q hq)]
   ·rw[if_neg c2,if_neg (fun q=>c2 (fun r hr=>q r (aw _ hr)))]
  ·rw[if_neg (fun q=>c (hb.2 q)),if_neg (fun q=>c (q p au))]
def AH{sh:Int}{fl:List FlM}(a0:0≤sh)(h:FlA fl)(hn:FlN sh fl)(item:Int){ps:LL1}(h1:∀p∈ps,LotOk p)(h2:Apart ps):retG sh fl item ps (eG fl)=revG fl item ps:=by
 have:=wh a0 h hn item ps [] h1 h2 (fun d hd=>absurd hd aH)
 rwa [aO] at this
