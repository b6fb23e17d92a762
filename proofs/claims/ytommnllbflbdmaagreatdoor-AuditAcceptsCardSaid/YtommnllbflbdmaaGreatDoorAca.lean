/- Lemmas. -/
import Derived.Test.YtommnllbflbdmaaGreatDoorAbi
set_option linter.all false
namespace Go.Proofs.YtommnllbflbdmaaGreatDoor
section
open Go.V
def hasU(l:LL)(f a:Int):Prop:=∃y∈l,y.1=f∧y.2.1≤a∧a<y.2.1+y.2.2
def kK{f a:Int}:¬hasU [] f a:=fun⟨_,h,_⟩=>by cases h
def hasU_cons{x:Lot}{l:LL}{f a:Int}:hasU (x::l) f a↔(x.1=f∧x.2.1≤a∧a<x.2.1+x.2.2)∨hasU l f a:=by
 constructor
 ·rintro⟨y,hy,h⟩;rcases List.mem_cons.1 hy with rfl|hy
  ·exact .inl h
  ·exact .inr ⟨y,hy,h⟩
 ·rintro (h|⟨y,hy,h⟩)
  ·exact⟨x,aq,h⟩
  ·exact⟨y,au _ hy,h⟩
def nb{x:Lot}{f a:Int}:hasU [x] f a↔x.1=f∧x.2.1≤a∧a<x.2.1+x.2.2:=by
 rw[hasU_cons];exact⟨fun h=>h.resolve_right kK,.inl⟩
def xZ{l m:LL}{f a:Int}:hasU (l++m) f a↔hasU l f a∨hasU m f a:=by
 constructor
 ·rintro⟨y,hy,h⟩;rcases List.mem_append.1 hy with hy|hy
  ·exact .inl ⟨y,hy,h⟩
  ·exact .inr ⟨y,hy,h⟩
 ·rintro (⟨y,hy,h⟩|⟨y,hy,h⟩)
  ·exact⟨y,bQ _ hy,h⟩
  ·exact⟨y,bz _ hy,h⟩
def EQ{x y:Lot}(hx:LotOk x){f a:Int}:hasU (subS x y) f a↔(y.1=f∧y.2.1≤a∧a<y.2.1+y.2.2)∧¬(x.1=f∧x.2.1≤a∧a<x.2.1+x.2.2):=by
 unfold LotOk at hx;by_cases h:y.1≠x.1∨x.2.1+x.2.2≤y.2.1∨y.2.1+y.2.2≤x.2.1
 ·rw[kO h,nb];omega
 ·rw[jZ h];by_cases c1:y.2.1<x.2.1<;>by_cases c2:x.2.1+x.2.2<y.2.1+y.2.2
  ·rw[if_pos c1,if_pos c2,xZ,nb,nb];dsimp only;omega
  ·rw[if_pos c1,if_neg c2,aQ,nb];dsimp only;omega
  ·rw[if_neg c1,if_pos c2,an,nb];dsimp only;omega
  ·rw[if_neg c1,if_neg c2,aQ];exact⟨fun h=>absurd h kK,fun q=>absurd q ab⟩
def uV{x:Lot}(hx:LotOk x){f a:Int}:∀l:LL,hasU (subL l x) f a↔hasU l f a∧¬(x.1=f∧x.2.1≤a∧a<x.2.1+x.2.2)
 | []=>⟨fun h=>absurd h kK,fun h=>absurd h.1 kK⟩
 | y::l=>by
  have e:subL (y::l) x=subS x y++subL l x:=bB;rw[e,xZ,EQ hx,uV hx l,hasU_cons];exact or_and_right.symm
def sF{f a:Int}:∀{ps l:LL},(∀x∈ps,LotOk x)→(hasU (ps.foldl subL l) f a↔hasU l f a∧¬hasU ps f a)
 | [],l,_=>⟨fun h=>⟨h,kK⟩,fun h=>h.1⟩
 | p::ps,l,h=>by
  have ih:=sF (f:=f) (a:=a) (ps:=ps) (l:=subL l p) (fun x hx=>h x (au _ hx));show hasU (ps.foldl subL (subL l p)) f a↔_;rw[ih,uV (h p aq),hasU_cons,and_assoc,not_or]
def HU{x y:Lot}(hx:LotOk x):(subS x y).Pairwise sl:=by
 unfold LotOk at hx;by_cases h:y.1≠x.1∨x.2.1+x.2.2≤y.2.1∨y.2.1+y.2.2≤x.2.1
 ·rw[kO h];exact bE _ _
 ·rw[jZ h];refine List.pairwise_append.2 ⟨?_,?_,?_⟩
  ·split
   ·exact bE _ _
   ·exact .nil
  ·split
   ·exact bE _ _
   ·exact .nil
  ·intro p hp q hq;split at hp
   ·split at hq
    ·rw[List.mem_singleton.1 hp,List.mem_singleton.1 hq];unfold sl;dsimp only;omega
    ·cases hq
   ·cases hp
def Bs{x:Lot}(hx:LotOk x):∀{l:LL},(∀y∈l,LotOk y)→l.Pairwise sl→(subL l x).Pairwise sl
 | [],_,_=>.nil
 | y::l,hl,h=>by
  have e:subL (y::l) x=subS x y++subL l x:=bB;rw[ey] at h;rw[e];refine List.pairwise_append.2 ⟨HU hx,Bs hx (fun z hz=>hl z (au _ hz)) h.2,fun p hp q hq=>?_⟩;obtain⟨p1,p2,p3,p4⟩:=lC hx (hl y aq) hp;obtain⟨w,hw,q1,q2,q3,q4⟩:=mN hx (fun z hz=>hl z (au _ hz)) hq;have:=h.1 w hw
  unfold sl at this ⊢;omega
def yz:∀{ps l:LL},(∀x∈ps,LotOk x)→(∀y∈l,LotOk y)→l.Pairwise sl→(ps.foldl subL l).Pairwise sl
 | [],_,_,_,h=>h
 | p::ps,l,hp,hl,h=>by
  have h1:=hp p aq;exact yz (ps:=ps) (l:=subL l p) (fun x hx=>hp x (au _ hx)) (nY h1 hl) (Bs h1 hl h)
def Bu:∀{a b:LL},(∀x∈a,LotOk x)→(∀x∈b,LotOk x)→a.Pairwise sl→b.Pairwise sl→(∀f u,hasU a f u↔hasU b f u)→a=b
 | [],[],_,_,_,_,_=>rfl
 | [],y::b,_,hb,_,_,h=>by
  have h1:=hb y aq;unfold LotOk at h1;exact absurd ((h y.1 y.2.1).2 (hasU_cons.2 (.inl ⟨rfl,ab,ab⟩))) kK
 | x::a,[],ha,_,_,_,h=>by
  have h1:=ha x aq;unfold LotOk at h1;exact absurd ((h x.1 x.2.1).1 (hasU_cons.2 (.inl ⟨rfl,ab,ab⟩))) kK
 | x::a,y::b,ha,hb,sa,sb,h=>by
  have hx:=ha x aq;have hy:=hb y aq;unfold LotOk at hx hy;rw[ey] at sa sb
  have fa:∀f u,hasU (x::a) f u→x.1<f∨(x.1=f∧x.2.1≤u∧(u<x.2.1+x.2.2∨x.2.1+x.2.2<u)):=by
   rintro f u ⟨w,hw,h1,h2,h3⟩;rcases List.mem_cons.1 hw with rfl|hw
   ·omega
   ·have:=sa.1 w hw
    unfold sl at this;omega
  have fb:∀f u,hasU (y::b) f u→y.1<f∨(y.1=f∧y.2.1≤u∧(u<y.2.1+y.2.2∨y.2.1+y.2.2<u)):=by
   rintro f u ⟨w,hw,h1,h2,h3⟩;rcases List.mem_cons.1 hw with rfl|hw
   ·omega
   ·have:=sb.1 w hw
    unfold sl at this;omega
  have g1:=fb x.1 x.2.1 ((h _ _).1 (hasU_cons.2 (.inl ⟨rfl,ab,ab⟩)));have g2:=fa y.1 y.2.1 ((h _ _).2 (hasU_cons.2 (.inl ⟨rfl,ab,ab⟩)));have e1:x.1=y.1:=ab;have e2:x.2.1=y.2.1:=ab
  have e3:x.2.2=y.2.2:=by
   rcases Int.lt_trichotomy x.2.2 y.2.2 with q|q|q
   ·have:=fa y.1 (x.2.1+x.2.2) ((h _ _).2 (hasU_cons.2 (.inl ⟨rfl,ab,ab⟩)))
    omega
   ·exact q
   ·have:=fb x.1 (y.2.1+y.2.2) ((h _ _).1 (hasU_cons.2 (.inl ⟨rfl,ab,ab⟩)))
    omega
  have e:x=y:=Prod.ext e1 (Prod.ext e2 e3);subst e;rw[Bu (a:=a) (b:=b) (fun z hz=>ha z (au _ hz)) (fun z hz=>hb z (au _ hz)) sa.2 sb.2 fun f u=>?_];have h0:=h f u;rw[hasU_cons,hasU_cons] at h0
  have n1:hasU a f u→¬(x.1=f∧x.2.1≤u∧u<x.2.1+x.2.2):=by
   rintro⟨w,hw,h1,h2,h3⟩;have:=sa.1 w hw
   unfold sl at this;omega
  have n2:hasU b f u→¬(x.1=f∧x.2.1≤u∧u<x.2.1+x.2.2):=by
   rintro⟨w,hw,h1,h2,h3⟩;have:=sb.1 w hw
   unfold sl at this;omega
  constructor
  ·intro q;exact(h0.1 (.inr q)).resolve_left (n1 q)
  ·intro q;exact(h0.2 (.inr q)).resolve_left (n2 q)
def BV{l:LL}(hl:∀y∈l,LotOk y){f a:Int}(hf:0≤f)(ha:0≤a)(hb:a<1099511627776):hasU l f a↔OV l (f,a,1)≠0:=by
 rw[ub hl (show LotOk (f,a,1) by unfold LotOk;dsimp only;omega)];constructor
 ·rintro⟨y,hy,h⟩;refine⟨y,hy,?_⟩;unfold apart;dsimp only;omega
 ·rintro⟨y,hy,h⟩;refine⟨y,hy,?_⟩;unfold apart at h;dsimp only at h;omega
def BI{l:LL}(hl:∀y∈l,LotOk y){f a:Int}(h:hasU l f a):0≤f∧0≤a∧a<1099511627776:=by
 obtain⟨y,hy,h1,h2,h3⟩:=h;have:=hl y hy
 unfold LotOk at this;omega
def BW{l m:LL}(hl:∀y∈l,LotOk y)(hm:∀y∈m,LotOk y)(h:∀t,LotOk t→OV l t=OV m t)(f a:Int):hasU l f a↔hasU m f a:=by
 have key:0≤f→0≤a→a<1099511627776→(hasU l f a↔hasU m f a):=fun h1 h2 h3=>by
  rw[BV hl h1 h2 h3,BV hm h1 h2 h3,h _ (show LotOk (f,a,1) by unfold LotOk;dsimp only;omega)]
 constructor
 ·intro q;obtain⟨h1,h2,h3⟩:=BI hl q;exact(key h1 h2 h3).1 q
 ·intro q;obtain⟨h1,h2,h3⟩:=BI hm q;exact(key h1 h2 h3).2 q
def Fc{ps zs:LL}(hp:∀y∈ps,LotOk y)(hz:∀y∈zs,LotOk y)(h:∀f a,hasU ps f a↔hasU zs f a){x:Lot}(hx:LotOk x):eM ps x=eM zs x:=by
 have h1:∀y∈[x],LotOk y:=fun y hy=>by rw[List.mem_singleton.1 hy];exact hx
 refine Bu (mZ hp hx).1 (mZ hz hx).1 (yz hp h1 (bE _ _)) (yz hz h1 (bE _ _)) fun f u=>?_;show hasU (ps.foldl subL [x]) f u↔hasU (zs.foldl subL [x]) f u;rw[sF hp,sF hz,h f u]
def pzo(x y:Lot):Int:=max 0 (y.2.1 - x.2.1)
def pzi(x y:Lot):Int:=min (x.2.2 - pzo x y) (y.2.1+y.2.2 - (x.2.1+pzo x y))
def pz2(x y:Lot):Lot:=(x.1,x.2.1+pzo x y+pzi x y,x.2.2 - pzo x y - pzi x y)
def pcz:LL→Lot→List (Lot×Bool)
 | [],x=>if 0<x.2.2 then[(x,false)] else[]
 | y::ys,x =>
  if 0<x.2.2∧y.1=x.1∧y.2.1<x.2.1+x.2.2 then
   (if 0<pzo x y then[((x.1,x.2.1,pzo x y),false)] else[])++(((x.1,x.2.1+pzo x y,pzi x y),true)::pcz ys (pz2 x y))
  else if 0<x.2.2 then[(x,false)] else[]
def pzP(x y:Lot):Prop:=x.1<y.1∨(y.1=x.1∧x.2.1<y.2.1+y.2.2)
instance (x y:Lot):Decidable (pzP x y):=by unfold pzP;infer_instance
def skp(x:Lot):LL→LL
 | []=>[]
 | y::ys=>if pzP x y then y::ys else skp x ys
def pcs(set:LL)(x:Lot):List (Lot×Bool):=pcz (skp x set) x
def wM(x:Lot):∀{set:LL} {i:Nat},i≤set.length→(∀p,p<i→¬pzP x set[p]!)→(i<set.length→pzP x set[i]!)→set.drop i=skp x set
 | [],i,_,_,_=>by rw[List.drop_nil];rfl
 | y::ys,0,_,_,h=>by
  have:=h (Nat.succ_pos _)
  show y::ys=if pzP x y then y::ys else skp x ys;rw[if_pos (show pzP x y from this)]
 | y::ys,i+1,hi,h1,h2=>by
  have h0:¬pzP x y:=h1 0 (Nat.succ_pos _);show ys.drop i=if pzP x y then y::ys else skp x ys;rw[if_neg h0];refine wM x (by simpa using hi) (fun p hp=>h1 (p+1) ab) (fun q=>h2 (by simpa using q))
def qQ(x:Lot):∀set:LL,∃l,set=l++skp x set∧∀y∈l,¬pzP x y
 | []=>⟨[],rfl,fun _ h=>by cases h⟩
 | y::ys=>by
  by_cases h:pzP x y
  ·exact⟨[],by show y::ys=if pzP x y then y::ys else skp x ys;rw[if_pos h],fun _ h=>by cases h⟩
  ·obtain⟨l,h1,h2⟩:=qQ x ys;refine⟨y::l,?_,fun z hz=>?_⟩
   ·show y::ys=y::l++(if pzP x y then y::ys else skp x ys);rw[if_neg h];exact congrArg (y::·) h1
   ·rcases List.mem_cons.1 hz with rfl|hz
    ·exact h
    ·exact h2 z hz
def mT(x:Lot):∀{set:LL},set.Pairwise sl→(∀y∈set,LotOk y)→∀y∈skp x set,pzP x y
 | [],_,_,_,h=>by cases h
 | y::ys,hs,ho,z,hz=>by
  rw[ey] at hs;change z∈(if pzP x y then y::ys else skp x ys) at hz;by_cases h:pzP x y
  ·rw[if_pos h] at hz;rcases List.mem_cons.1 hz with rfl|hz
   ·exact h
   ·have h1:=hs.1 z hz;have h2:=ho z (au _ hz);unfold pzP at h ⊢;unfold sl at h1;unfold LotOk at h2;omega
  ·rw[if_neg h] at hz;exact mT x hs.2 (fun w hw=>ho w (au _ hw)) z hz
def oO{ys:LL}{x:Lot}(h:¬0<x.2.2):pcz ys x=[]:=by
 cases ys with
 | nil=>exact if_neg h
 | cons y ys=>exact(if_neg (fun q=>h q.1)).trans (if_neg h)
def gD(l:List (Lot×Bool)):LL:=(l.filter (fun q=>!q.2)).map Prod.fst
def pcIn(l:List (Lot×Bool)):LL:=(l.filter (fun q=>q.2)).map Prod.fst
def nr(a b:List (Lot×Bool)):gD (a++b)=gD a++gD b:=by unfold gD;rw[du,aW]
def xH(a b:List (Lot×Bool)):pcIn (a++b)=pcIn a++pcIn b:=by unfold pcIn;rw[du,aW]
def qT{x y:Lot}{ys:LL}(h:0<x.2.2∧y.1=x.1∧y.2.1<x.2.1+x.2.2):pcz (y::ys) x=(if 0<pzo x y then[((x.1,x.2.1,pzo x y),false)] else[])++(((x.1,x.2.1+pzo x y,pzi x y),true)::pcz ys (pz2 x y)):=if_pos h
def oP{x y:Lot}{ys:LL}(h0:0<x.2.2)(h:¬(y.1=x.1∧y.2.1<x.2.1+x.2.2)):pcz (y::ys) x=[(x,false)]:=(if_neg (fun q=>h q.2)).trans (if_pos h0)
def Bx:∀{ys:LL} {x:Lot},LotOk x→(∀y∈ys,LotOk y)→ys.Pairwise sl→(∀y∈ys,pzP x y)→gD (pcz ys x)=ys.foldl subL [x]
 | [],x,hx,_,_,_=>by
  unfold LotOk at hx;rw[show pcz [] x=[(x,false)] from if_pos ab];rfl
 | y::ys,x,hx,ho,hs,hp=>by
  have a2:=hx;unfold LotOk at a2;rw[ey] at hs;have hy:=ho y aq;unfold LotOk at hy;have a1:=hp y aq;unfold pzP at a1;have a0:∀w∈ys,LotOk w:=fun w hw=>ho w (au _ hw);by_cases c:y.1=x.1∧y.2.1<x.2.1+x.2.2
  ·rw[qT ⟨ab,c⟩,nr];show _++gD (pcz ys (pz2 x y))=ys.foldl subL (subL [x] y);have e1:subL [x] y=subS y x:=kL _ _;rw[e1,jZ ab,BP]
   have e2:ys.foldl subL (if x.2.1<y.2.1 then[(y.1,x.2.1,y.2.1 - x.2.1)] else[])=if x.2.1<y.2.1 then[(y.1,x.2.1,y.2.1 - x.2.1)] else[]:=by
    refine ow fun p hp z hz=>?_;split at hz
    ·rw[List.mem_singleton.1 hz];have:=hs.1 p hp
     unfold sl at this;unfold apart;dsimp only;omega
    ·cases hz
   rw[e2]
   have e3:gD (if 0<pzo x y then[((x.1,x.2.1,pzo x y),false)] else[])=if x.2.1<y.2.1 then[(y.1,x.2.1,y.2.1 - x.2.1)] else[]:=by
    by_cases q:x.2.1<y.2.1
    ·rw[if_pos q,if_pos (show 0<pzo x y by unfold pzo;omega),c.1,show pzo x y=y.2.1 - x.2.1 by unfold pzo;omega];rfl
    ·rw[if_neg q,if_neg (show ¬0<pzo x y by unfold pzo;omega)];rfl
   rw[e3];congr 1;by_cases q:y.2.1+y.2.2<x.2.1+x.2.2
   ·have e4:pz2 x y=(y.1,y.2.1+y.2.2,x.2.1+x.2.2 - y.2.1 - y.2.2):=by
     unfold pz2 pzi pzo;refine Prod.ext c.1.symm (Prod.ext ?_ ?_)<;>dsimp only<;>omega
    rw[if_pos q,e4];refine Bx (by unfold LotOk;dsimp only;omega) a0 hs.2 fun w hw=>?_;have h1:=hs.1 w hw;have h2:=a0 w hw;unfold sl at h1;unfold LotOk at h2;unfold pzP;dsimp only;omega
   ·rw[if_neg q,oO (show ¬0<(pz2 x y).2.2 by unfold pz2 pzi pzo;dsimp only;omega)];exact(ow (l:=[]) (fun _ _ z hz=>by cases hz)).symm
  ·rw[oP ab c];refine(ow (l:=[x]) fun p hp z hz=>?_).symm;rw[List.mem_singleton.1 hz];unfold apart;rcases List.mem_cons.1 hp with rfl|hp
   ·omega
   ·have:=hs.1 p hp
    unfold sl at this;omega
def IJ:∀{ys:LL} {x:Lot},LotOk x→(∀y∈ys,LotOk y)→ys.Pairwise sl→(∀y∈ys,pzP x y)→(pcIn (pcz ys x)≠[]↔∃y∈ys,¬apart y x)
 | [],x,hx,_,_,_=>by
  unfold LotOk at hx;rw[show pcz [] x=[(x,false)] from if_pos ab];exact⟨fun h=>absurd rfl h,fun⟨_,h,_⟩=>by cases h⟩
 | y::ys,x,hx,ho,hs,hp=>by
  unfold LotOk at hx;rw[ey] at hs;have hy:=ho y aq;unfold LotOk at hy;have a0:=hp y aq;unfold pzP at a0;by_cases c:y.1=x.1∧y.2.1<x.2.1+x.2.2
  ·rw[qT ⟨ab,c⟩,xH];refine⟨fun _=>⟨y,aq,by unfold apart;omega⟩,fun _ h=>?_⟩;have h2:((x.1,x.2.1+pzo x y,pzi x y):Lot)::pcIn (pcz ys (pz2 x y))=[]:=(List.append_eq_nil_iff.1 h).2;cases h2
  ·rw[oP ab c];refine⟨fun h=>absurd rfl h,fun⟨w,hw,hn⟩=>absurd ?_ hn⟩;unfold apart;rcases List.mem_cons.1 hw with rfl|hw
   ·omega
   ·have:=hs.1 w hw
    unfold sl at this;omega
structure SetOk (z:LL):Prop where
 ok:∀y∈z,LotOk y
 sl:z.Pairwise sl
def Ig{set:LL}(h:SetOk set){x:Lot}(hx:LotOk x):gD (pcs set x)=eM set x:=by
 obtain⟨l,h1,h2⟩:=qQ x set;have hk:=mT x h.sl h.ok;have a1:∀y∈skp x set,LotOk y:=fun y hy=>h.ok y (by rw[h1];exact bz _ hy)
 have a0:(skp x set).Pairwise sl:=by
  have:=h.sl
  rw[h1] at this;exact(List.pairwise_append.1 this).2.1
 unfold pcs;rw[Bx hx a1 a0 hk];have e:eM set x=(l++skp x set).foldl subL [x]:=by unfold eM;rw[←h1]
 have e2:l.foldl subL [x]=[x]:=ow fun p hp z hz=>by
  rw[List.mem_singleton.1 hz];have h3:=h2 p hp;unfold pzP at h3;unfold apart;omega
 rw[e,cv,e2]
def IK{set:LL}(h:SetOk set){x:Lot}(hx:LotOk x):pcIn (pcs set x)≠[]↔∃y∈set,¬apart y x:=by
 obtain⟨l,h1,h2⟩:=qQ x set;have hk:=mT x h.sl h.ok;have a1:∀y∈skp x set,LotOk y:=fun y hy=>h.ok y (by rw[h1];exact bz _ hy)
 have a0:(skp x set).Pairwise sl:=by
  have:=h.sl
  rw[h1] at this;exact(List.pairwise_append.1 this).2.1
 unfold pcs;rw[IJ hx a1 a0 hk];constructor
 ·rintro⟨y,hy,hn⟩;exact⟨y,by rw[h1];exact bz _ hy,hn⟩
 ·rintro⟨y,hy,hn⟩;rw[h1] at hy;rcases List.mem_append.1 hy with hy|hy
  ·have h3:=h2 y hy;refine absurd ?_ hn;unfold pzP at h3;unfold apart;omega
  ·exact⟨y,hy,hn⟩
def Fq:∀{ys:LL} {x:Lot},LotW x→(∀y∈ys,LotOk y)→(∀y∈ys,pzP x y)→ys.Pairwise sl→(∀q∈pcz ys x,LotOk q.1)∧(pcz ys x).length≤2*ys.length+1
 | [],x,hx,_,_,_=>by
  unfold LotW at hx;by_cases h:0<x.2.2
  ·rw[show pcz [] x=[(x,false)] from if_pos h];refine⟨fun q hq=>?_,aB _⟩;rw[List.mem_singleton.1 hq];unfold LotOk;dsimp only;omega
  ·rw[oO h];exact⟨(fun _ h=>by cases h),aw _⟩
 | y::ys,x,hx,ho,hp,hs=>by
  rw[ey] at hs;have hy:=ho y aq;unfold LotOk at hy;have a1:=hp y aq;unfold pzP at a1;have a0:∀w∈ys,LotOk w:=fun w hw=>ho w (au _ hw);have a2:=hx;unfold LotW at a2;by_cases h:0<x.2.2
  ·by_cases c:y.1=x.1∧y.2.1<x.2.1+x.2.2
   ·rw[qT ⟨h,c⟩];have hw:LotW (pz2 x y):=by unfold LotW pz2 pzi pzo;dsimp only;omega
    obtain⟨i1,i2⟩:=Fq (ys:=ys) hw a0 (fun w hw=>by
     have h1:=hs.1 w hw;have h2:=a0 w hw;unfold sl at h1;unfold LotOk at h2;unfold pzP pz2 pzi pzo;dsimp only;omega) hs.2
    refine⟨fun q hq=>?_,?_⟩
    ·rcases List.mem_append.1 hq with hq|hq
     ·split at hq
      ·rw[List.mem_singleton.1 hq];unfold LotOk;dsimp only;unfold pzo at *;omega
      ·cases hq
     ·rcases List.mem_cons.1 hq with rfl|hq
      ·unfold LotOk;dsimp only;unfold pzi pzo;omega
      ·exact i1 q hq
    ·rw[ay,bh,bh];have:(if 0<pzo x y then[(((x.1,x.2.1,pzo x y):Lot),false)] else[]).length≤1:=by split<;>simp
     omega
   ·rw[oP h c];refine⟨fun q hq=>?_,by simp⟩;rw[List.mem_singleton.1 hq];unfold LotOk;dsimp only;omega
  ·rw[oO h];exact⟨(fun _ h=>by cases h),aw _⟩
def Fr{set:LL}(h:SetOk set){x:Lot}(hx:LotOk x):(∀q∈pcs set x,LotOk q.1)∧(pcs set x).length≤2*set.length+1:=by
 obtain⟨l,h1,h2⟩:=qQ x set;have hk:=mT x h.sl h.ok;have a1:∀y∈skp x set,LotOk y:=fun y hy=>h.ok y (by rw[h1];exact bz _ hy)
 have a0:(skp x set).Pairwise sl:=by
  have:=h.sl
  rw[h1] at this;exact(List.pairwise_append.1 this).2.1
 obtain⟨i1,i2⟩:=Fq hx.w a1 hk a0
 have hl:(skp x set).length≤set.length:=by
  have:=congrArg List.length h1
  rw[ay] at this;omega
 exact⟨i1,by unfold pcs;omega⟩
def zst(s:LL)(x:Lot):LL :=
 if s.length≠0∧s[s.length - 1]!.1=x.1∧x.2.1≤s[s.length - 1]!.2.1+s[s.length - 1]!.2.2 then
  s.set (s.length - 1) (s[s.length - 1]!.1,s[s.length - 1]!.2.1,max s[s.length - 1]!.2.2 (x.2.1+x.2.2 - s[s.length - 1]!.2.1))
 else s++[x]
def zset(ys:LL):LL:=ys.foldl zst []
def vk(r:LL)(l:Lot):(r++[l])[(r++[l]).length - 1]! = l:=by
 have h:(r++[l]).length - 1<(r++[l]).length:=by rw[ay,aJ];omega
 rw[getElem!_of h,List.getElem_append_right (by rw[ay,aJ];omega)];simp
def Gt{r:LL}{l x:Lot}(h:l.1=x.1∧x.2.1≤l.2.1+l.2.2):zst (r++[l]) x=r++[(l.1,l.2.1,max l.2.2 (x.2.1+x.2.2 - l.2.1))]:=by
 unfold zst;rw[vk,if_pos ⟨by rw[ay,aJ];omega,h⟩,ay,aJ,Nat.add_sub_cancel,List.set_append_right _ _ (aB _),Nat.sub_self];rfl
def HM{r:LL}{l x:Lot}(h:¬(l.1=x.1∧x.2.1≤l.2.1+l.2.2)):zst (r++[l]) x=r++[l]++[x]:=by
 unfold zst;rw[vk,if_neg (fun q=>h q.2)]
def lF(a b:LL):lsum (a++b)=lsum a+lsum b:=by
 induction a with
 | nil=>rw[an,ir];omega
 | cons x a ih=>rw[ao,gE,gE,ih];omega
structure ZI (s P:LL):Prop where
 ok:∀y∈s,LotOk y
 sl:s.Pairwise sl
 len:s.length≤P.length
 nil:s=[]→P=[]
 top:∀r l,s=r++[l]→(∀y∈P,y.1<l.1∨(y.1=l.1∧y.2.1+y.2.2≤l.2.1+l.2.2))∧(∃y∈P,y.1=l.1∧y.2.1=l.2.1)∧∃y∈P,y.1=l.1∧y.2.1+y.2.2=l.2.1+l.2.2
 le:lsum s≤lsum P
 eq:lsum s=lsum P→Apart P∧∀t,LotOk t→OV s t=OV P t
 ap:Apart P→lsum s=lsum P
def rV{r r' : LL}{l l' : Lot}(h:r++[l]=r'++[l']):r=r'∧l=l':=by
 obtain⟨h1,h2⟩:=List.append_inj' h rfl;exact⟨h1,by simpa using h2⟩
def apart_snoc_iff{P:LL}{x:Lot}:Apart (P++[x])↔Apart P∧∀y∈P,apart y x:=by
 constructor
 ·intro h;obtain⟨h1,_,h3⟩:=List.pairwise_append.1 h;exact⟨h1,fun y hy=>h3 y hy x (cW _)⟩
 ·rintro⟨h1,h2⟩;exact List.pairwise_append.2 ⟨h1,bE _ _,fun y hy w hw=>by rw[List.mem_singleton.1 hw];exact h2 y hy⟩
def ZI.step{s P:LL}(h:ZI s P)(hP:∀y∈P,LotOk y){x:Lot}(hx:LotOk x)(ho:∀y∈P,y.1<x.1∨(y.1=x.1∧y.2.1≤x.2.1)):ZI (zst s x) (P++[x]):=by
 have a9:=hx;unfold LotOk at a9;rcases List.eq_nil_or_concat s with rfl|⟨r,l,rfl⟩
 ·have hp:=h.nil rfl;subst hp;have e:zst [] x=[x]:=by unfold zst;rw[if_neg (fun q=>q.1 rfl)];rfl
  rw[e,an];refine⟨fun y hy=>by rw[List.mem_singleton.1 hy];exact hx,bE _ _,aB _,(fun q=>by cases q),fun r l q=>?_,bg _,fun _=>⟨bE _ _,fun _ _=>rfl⟩,fun _=>rfl⟩;obtain⟨_,rfl⟩:=rV (r:=[]) (l:=x) q;refine⟨fun y hy=>?_,⟨x,cW _,rfl,rfl⟩,⟨x,cW _,rfl,rfl⟩⟩;rw[List.mem_singleton.1 hy];exact .inr ⟨rfl,bg _⟩
 rw[List.concat_eq_append] at h ⊢;obtain⟨t1,⟨a,ha,b3,a6⟩,⟨b,hb,b2,b4⟩⟩:=h.top r l rfl;have b5:=ho a ha;have hl:=h.ok l (bz _ (cW _));unfold LotOk at hl;have a5:=List.pairwise_append.1 h.sl;have a3:∀y∈r,Go.Proofs.YtommnllbflbdmaaGreatDoor.sl y l:=fun y hy=>a5.2.2 y hy l (cW _);have a1:=h.len;have a8:=h.le;rw[ay,aJ] at a1;rw[lF,gq] at a8;have a0:lsum (P++[x])=lsum P+x.2.2:=by rw[lF,gq]
 have a2:∀t,OV (P++[x]) t=OV P t+ov x t:=fun t=>by rw[gF,iX]
 by_cases c:l.1=x.1∧x.2.1≤l.2.1+l.2.2
 ·rw[Gt c];obtain⟨N,hN⟩:∃N,N=max l.2.2 (x.2.1+x.2.2 - l.2.1):=⟨_,rfl⟩;rw[←hN];have hs:lsum (r++[((l.1,l.2.1,N):Lot)])=lsum r+N:=by rw[lF,gq]
  have he:=h.eq;have a4:=h.ap;rw[lF,gq] at he a4;refine⟨fun y hy=>?_,?_,by rw[ay,ay,aJ,aJ];omega,(fun q=>by simp at q),fun r2 l2 q=>?_,by rw[hs,a0];omega,fun q=>?_,fun q=>?_⟩
  ·rcases List.mem_append.1 hy with hy|hy
   ·exact h.ok y (bQ _ hy)
   ·rw[List.mem_singleton.1 hy];unfold LotOk;dsimp only;omega
  ·refine List.pairwise_append.2 ⟨a5.1,bE _ _,fun y hy w hw=>?_⟩;rw[List.mem_singleton.1 hw];have:=a3 y hy
   unfold Go.Proofs.YtommnllbflbdmaaGreatDoor.sl at this ⊢;exact this
  ·obtain⟨_,rfl⟩:=rV q;dsimp only;refine⟨fun y hy=>?_,⟨a,bQ _ ha,b3,a6⟩,?_⟩
   ·rcases List.mem_append.1 hy with hy|hy
    ·have:=t1 y hy
     omega
    ·rw[List.mem_singleton.1 hy];omega
   ·by_cases g:x.2.1+x.2.2≤l.2.1+l.2.2
    ·exact⟨b,bQ _ hb,b2,ab⟩
    ·exact⟨x,bz _ (cW _),c.1.symm,ab⟩
  ·rw[hs,a0] at q;obtain⟨e1,e2⟩:=he ab;have b1:x.2.1=l.2.1+l.2.2:=ab;have b0:N=l.2.2+x.2.2:=ab;refine⟨apart_snoc_iff.2 ⟨e1,fun y hy=>?_⟩,fun t ht=>?_⟩
   ·have:=t1 y hy
    unfold apart;omega
   ·have e3:=e2 t ht;rw[gF,iX] at e3;unfold LotOk at ht
    have e4:ov (l.1,l.2.1,N) t=ov l t+ov x t:=by
     rw[b0,qV,xI t l.1 l.2.1 l.2.2 x.2.2 ab ab ab,qV l t,qV x t,←b1,c.1];have k1:((x.1,l.2.1,l.2.2):Lot)=l:=Prod.ext c.1.symm rfl;rw[k1]
    rw[gF,iX,a2,e4];omega
  ·obtain⟨q1,q2⟩:=apart_snoc_iff.1 q;have e1:=a4 q1;have e2:=q2 b hb;have e3:=ho b hb;have a7:=hP b hb;unfold LotOk at a7;unfold apart at e2;rw[hs,a0];omega
 ·rw[HM c];have hs:lsum (r++[l]++[x])=lsum (r++[l])+x.2.2:=by rw[lF,gq]
  refine⟨fun y hy=>?_,?_,by rw[ay,ay,ay,aJ,aJ];omega,(fun q=>by simp at q),fun r2 l2 q=>?_,by rw[hs,a0,lF,gq];omega,fun q=>?_,fun q=>?_⟩
  ·rcases List.mem_append.1 hy with hy|hy
   ·exact h.ok y hy
   ·rw[List.mem_singleton.1 hy];exact hx
  ·refine List.pairwise_append.2 ⟨h.sl,bE _ _,fun y hy w hw=>?_⟩;rw[List.mem_singleton.1 hw];rcases List.mem_append.1 hy with hy|hy
   ·have:=a3 y hy
    unfold Go.Proofs.YtommnllbflbdmaaGreatDoor.sl at this ⊢;omega
   ·rw[List.mem_singleton.1 hy];unfold Go.Proofs.YtommnllbflbdmaaGreatDoor.sl;omega
  ·obtain⟨_,rfl⟩:=rV q;refine⟨fun y hy=>?_,⟨x,bz _ (cW _),rfl,rfl⟩,⟨x,bz _ (cW _),rfl,rfl⟩⟩;rcases List.mem_append.1 hy with hy|hy
   ·have:=t1 y hy
    have:=ho y hy
    omega
   ·rw[List.mem_singleton.1 hy];exact .inr ⟨rfl,bg _⟩
  ·rw[hs,a0] at q;obtain⟨e1,e2⟩:=h.eq ab;refine⟨apart_snoc_iff.2 ⟨e1,fun y hy=>?_⟩,fun t ht=>?_⟩
   ·have:=t1 y hy
    unfold apart;omega
   ·rw[gF,iX,a2,e2 t ht]
  ·rw[hs,a0,h.ap (apart_snoc_iff.1 q).1]
def wr:∀(Q:LL) {s P:LL},ZI s P→(∀y∈P++Q,LotOk y)→(P++Q).Pairwise (fun a b=>¬hdC b a<0)→ZI (Q.foldl zst s) (P++Q)
 | [],s,P,h,_,_=>by rw[aQ];exact h
 | x::Q,s,P,h,hl,hs=>by
  have e:P++x::Q=(P++[x])++Q:=by simp
  have hP:∀y∈P,LotOk y:=fun y hy=>hl y (bQ _ hy);have hx:=hl x (bz _ aq)
  have h1:ZI (zst s x) (P++[x]):=h.step hP hx fun y hy=>by
   have:=(List.pairwise_append.1 hs).2.2 y hy x aq
   rw[ml] at this;unfold klt at this;omega
  rw[e] at hl hs ⊢;exact wr Q h1 hl hs
def lA{ps ys:LL}(h:ez hdC ps ys)(hl:∀x∈ps,LotOk x):SetOk (zset ys)∧(zset ys).length≤ps.length∧(lsum (zset ys)=lsum ps↔Apart ps)∧(Apart ps→∀t,LotOk t→OV (zset ys) t=OV ps t):=by
 have hy:∀x∈ys,LotOk x:=fun x hx=>hl x (h.1.mem_iff.1 hx);have h0:ZI [] []:=⟨(fun _ q=>by cases q),.nil,aB _,(fun _=>rfl),(fun r l q=>by simp at q),bg _,fun _=>⟨.nil,fun _ _=>rfl⟩,fun _=>rfl⟩;have z:ZI (zset ys) ys:=wr ys h0 hy h.2;have pa:Apart ps↔Apart ys:=(h.1.pairwise_iff (fun {a b} q=>by unfold apart at *;omega)).symm;have a0:lsum ys=lsum ps:=vh h.1;refine⟨⟨z.ok,z.sl⟩,by rw[←h.1.length_eq];exact z.len,?_,fun q t ht=>?_⟩
 ·rw[←a0,pa];exact⟨fun q=>(z.eq q).1,z.ap⟩
 ·rw[(z.eq (z.ap (pa.1 q))).2 t ht];exact BX h.1 t
end
end Go.Proofs.YtommnllbflbdmaaGreatDoor
namespace Go.V
def EA(ad:OA):Prop:=∃a,ad=some a
def Ev.l9{P:Program}{L:LH}{env:Env}{ty:TypeId}{x:Operand}{ad:OA}{sz j o:Nat}(hx:evE env x=some (.pointer (elP ad sz j o)))(h:EA ad):Ev P L env (.nilCheck x) ty (.pointer (elP ad sz j o)):=by
 obtain⟨g,rfl⟩:=h;exact Ev.nilCheck (a:=Addr.add g (j*sz+o)) hx
def GS{α:Type}{enc:α→LV}{sz E:Nat}{ad:OA}{cap:Nat}{xs:List α}{L R' : LH}[h:PickOsl L ad α enc sz E cap xs R'](h0:0<xs.length):∀θ R w,Sat θ (L++R) w→EA ad:=fun θ R w s=>by
 have s1:Sat θ (osl enc sz E ad cap xs::(R'++R)) w:=s.perm (h.perm.append_right R);obtain⟨_,h1,_,h2⟩:=s1.osl_parts;rcases h2 with⟨_,h3⟩|⟨g,a0,h3,_⟩
 ·omega
 ·exact⟨_,h3⟩
