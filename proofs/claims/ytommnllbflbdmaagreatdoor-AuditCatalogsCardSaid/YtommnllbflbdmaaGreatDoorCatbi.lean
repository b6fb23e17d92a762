/- Lemmas. -/
import Derived.Test.YtommnllbflbdmaaGreatDoorCatbe
import Derived.Defers
import Derived.Recover
set_option linter.all false
namespace Go.Proofs.YtommnllbflbdmaaGreatDoor
section
open Go.V
def Fx(l:LL1):∀a b:LL1,OO l (a++b)=OO l a+OO l b
 | [],b=>by show OO l b=0+OO l b;omega
 | x::a,b=>by
  have:=Fx l a b
  show OV l x+OO l (a++b)=OV l x+OO l a+OO l b;omega
def wT(y:Lot)(f a n m:Int)(hn:0≤n)(hm:0≤m)(hy:0≤y.2.2):ov y (f,a,n+m)=ov y (f,a,n)+ov y (f,a+n,m):=by
 unfold ov;dsimp only;split<;>omega
def yi(f a n m:Int)(hn:0≤n)(hm:0≤m):∀l:LL1,(∀y∈l,LotOk y)→OV l (f,a,n+m)=OV l (f,a,n)+OV l (f,a+n,m)
 | [],_=>rfl
 | y::l,h=>by
  have hy:=h y au;unfold LotOk at hy;have h1:=wT y f a n m hn hm ab;have h2:=yi f a n m hn hm l (fun z hz=>h z (aw _ hz));show ov y _+OV l _=(ov y _+OV l _)+(ov y _+OV l _);omega
def yj(f a:Int):∀l:LL1,(∀y∈l,LotOk y)→OV l (f,a,0)=0
 | [],_=>rfl
 | y::l,h=>by
  have h2:=yj f a l (fun z hz=>h z (aw _ hz))
  have h1:ov y (f,a,0)=0:=by
   unfold ov;dsimp only;split<;>omega
  show ov y _+OV l _=0;omega
def Fv(l:LL1)(x:Lot):∀(s:LL1) (k:Nat),k<s.length→OO l (s.set k x)=OO l s - OV l s[k]! + OV l x
 | y::s,0,_=>by
  show OV l x+OO l s=OV l y+OO l s - OV l y+OV l x;omega
 | y::s,k+1,h=>by
  have:=Fv l x s k (by simpa using h)
  show OV l y+OO l (s.set k x)=OV l y+OO l s - OV l s[k]! + OV l x;omega
def Bj{l:LL1}(hl:∀y∈l,LotOk y):∀(r out:LL1),(∀z∈r,LotW z)→(∀z∈out,LotW z)→OO l (r.foldl ba out)=OO l out+OO l r
 | [],out,_,_=>by show OO l out=OO l out+0;omega
 | x::r,out,h1,h2=>by
  have hx:=h1 x au;have ih:=Bj hl r (ba out x) (fun z hz=>h1 z (aw _ hz)) (qy h2 hx)
  have e:OO l (ba out x)=OO l out+OV l x:=by
   unfold ba;by_cases c0:x.2.2=0
   ·rw[if_pos c0];have:=yj x.1 x.2.1 l hl
    rw[show((x.1,x.2.1,0):Lot)=x by rw[←c0]] at this;omega
   ·rw[if_neg c0];by_cases c1:out.length≠0∧lm x out[out.length - 1]!
    ·rw[if_pos c1,Fv l _ out _ ab];have hb:=h2 _ (aL (ab:out.length - 1<out.length));have hc:=lcont_iff.1 c1.2;generalize out[out.length - 1]! = b at *;unfold LotW at hb hx;have:=yi b.1 b.2.1 b.2.2 x.2.2 ab ab l hl
     rw[←hc.2,←hc.1] at this;rw[←hc.1,this];show OO l out - OV l b+(OV l (x.1,b.2.1,b.2.2)+OV l x)=OO l out+OV l x;rw[show((x.1,b.2.1,b.2.2):Lot)=b by rw[hc.1]];omega
    ·rw[if_neg c1,Fx];show OO l out+(OV l x+0)=_;omega
  show OO l (r.foldl ba (ba out x))=OO l out+(OV l x+OO l r);omega
def Bi{w:Lot}:∀{l:LL1},(∀q∈l,ov q w=0)→OV l w=0
 | [],_=>rfl
 | q::l,h=>by
  have h1:=h q au;have h2:=Bi (l:=l) (fun p hp=>h p (aw _ hp));show ov q w+OV l w=0;omega
def uS{w:Lot}:∀{l:LL1} {y:Lot},(∀z∈l,LotOk z)→Apart l→y∈l→0≤w.2.2→w.1=y.1→y.2.1≤w.2.1→w.2.1+w.2.2≤y.2.1+y.2.2→OV l w=w.2.2
 | z::l,y,hl,ha,hy,h0,h1,h2,h3=>by
  obtain⟨a1,a2⟩:=List.pairwise_cons.1 ha;have hz:=hl z au;unfold LotOk at hz;have a0:∀q∈l,LotOk q:=fun q hq=>hl q (aw _ hq);show ov z w+OV l w=w.2.2;rcases List.mem_cons.1 hy with rfl|hy
  ·have e1:ov y w=w.2.2:=by
    unfold ov;rw[if_pos h1.symm];omega
   have e2:OV l w=0:=by
    refine Bi (fun q hq=>?_);have g1:=a1 q hq;have g2:=a0 q hq;unfold apart at g1;unfold LotOk at g2;unfold ov;split<;>omega
   omega
  ·have ih:=uS a0 a2 hy h0 h1 h2 h3;have g1:=a1 y hy;have a3:=a0 y hy;unfold LotOk at a3;unfold apart at g1
   have e1:ov z w=0:=by
    unfold ov;split<;>omega
   omega
def uT{l:LL1}(hl:∀z∈l,LotOk z)(ha:Apart l):∀{s:LL1},(∀w∈s,LotOk w∧∃y∈l,w.1=y.1∧y.2.1≤w.2.1∧w.2.1+w.2.2≤y.2.1+y.2.2)→OO l s=lsum s
 | [],_=>by rw[iC];rfl
 | w::s,h=>by
  obtain⟨h1,y,hy,h2,h3,h4⟩:=h w au;have ih:=uT hl ha (s:=s) (fun q hq=>h q (aw _ hq));unfold LotOk at h1;have e:=uS hl ha hy ab h2 h3 h4;rw[gy];show OV l w+OO l s=_;omega
def Gb{a:LL1}(h:∀x∈a,LotOk x){p:Lot}(hp:LotOk p):lsum (nj a [p])=OV (setL a) p:=by
 have hs:=(qr h).2
 have a1:Apart (setL a):=by
  have:=(mM h a.length (aI _)).1
  rw[cd] at this;exact vV this
 have a3:∀x∈[p],LotOk x:=fun x hx=>by rw[List.mem_singleton.1 hx];exact hp
 have e0:jM a [p]=(subL (setL a) p).foldl ba []:=nW _ _;have hX:=(pD h a3).1
 have a0:∀w∈subL (setL a) p,LotOk w∧∃y∈setL a,w.1=y.1∧y.2.1≤w.2.1∧w.2.1+w.2.2≤y.2.1+y.2.2:=fun w hw=>by
  obtain⟨y,hy,g1,g2,g3,g4⟩:=mG hp hs hw;exact⟨g1,y,hy,g2,g3,g4⟩
 have a2:Apart (jM a [p]):=by
  rw[e0];refine lj ?_ (fun z hz=>?_)
  ·rw[aj];exact(mq hp hs a1).1
  ·rw[aj] at hz;have:=(a0 z hz).1
   unfold LotOk at this;omega
 have e1:lsum (nj a [p])=lsum (setL a) - OO (setL a) (jM a [p]):=tZ hs hX a2
 have e2:OO (setL a) (jM a [p])=OO (setL a) (subL (setL a) p):=by
  rw[e0,Bj hs _ _ (fun z hz=>(a0 z hz).1.w) (fun z hz=>absurd hz aH)];show 0+_=_;omega
 rw[e1,e2,uT hs a1 a0,rk hp hs];omega
def tg{l:LL1}{p:Lot}(hl:∀y∈l,LotOk y)(hp:LotOk p):OV l p≠0↔∃y∈l,¬apart y p:=by
 constructor
 ·intro h;refine Classical.byContradiction (fun q=>h ?_);have a0:∀y∈l,apart y p:=fun y hy=>Classical.byContradiction (fun r=>q ⟨y,hy,r⟩);clear h q;induction l with
  | nil=>rfl
  | cons y l ih =>
   have h1:=(qw (hl y au) hp).2 (a0 y au);have h2:=ih (fun z hz=>hl z (aw _ hz)) (fun z hz=>a0 z (aw _ hz));show ov y p+OV l p=0;omega
 ·rintro⟨y,hy,hn⟩ e;exact hn ((qw (hl y hy) hp).1 (tX e y hy))
def oD{a:LL1}(h:∀x∈a,LotOk x)(ha:Apart a){p:Lot}(hp:LotOk p):nj a [p]≠[]↔∃y∈a,y.1=p.1∧ovP p y:=by
 have hs:=(qr h).2;have a1:∀x∈[p],LotOk x:=fun x hx=>by rw[List.mem_singleton.1 hx];exact hp
 have a0:∀z∈nj a [p],LotOk z:=(vB hs (pD h a1).1).1;have e:=Gb h hp;obtain⟨_,_,g3,_⟩:=mM h a.length (aI _);rw[cd] at g3;have e2:OV (setL a) p=OV a p:=(g3 ((og h).2 ha)).2 p hp
 have e3:nj a [p]≠[]↔OV a p≠0:=by
  rw[←e2,←e];constructor
  ·intro h2 h3;have:=jO a0 (List.length_pos_iff.2 h2)
   omega
  ·intro h2 h3;rw[h3,iC] at h2;exact h2 rfl
 rw[e3,tg h hp];constructor
 ·rintro⟨y,hy,hn⟩;refine⟨y,hy,?_⟩;unfold apart at hn;unfold ovP;omega
 ·rintro⟨y,hy,h1,h2⟩;refine⟨y,hy,?_⟩;unfold ovP at h2;unfold apart;omega
end
section
open Go.V
attribute [local irreducible] G GO GP GPW GPK Ev Ef EfR Ent CB GB V.Enters
structure TkG (x:RLX) (mix:Int→Bool) (W:Wk) (m:MvM) (st:List RStk):Prop where
 lots:∀a i,(ng st a i).lots=gStk mix W m a i
 sum:∀i,rsum st i=rsum x.stks i - (if m.frm≠0∧i=m.item then m.n else 0)
 ok:rOk st
 len:st.length≤x.stks.length+1
 dist:qt x.stks→qt st
def DF(fl:List FlV):Prop:=∀f∈fl,f.m.kind=5→f.m.frm=0→f.m.parts.length≤f.pcap
def mvK:List MvM→Nat
 | []=>0
 | m::ms=>(m.parts.length+1)+mvK ms
def oB:∀(a b:List MvM),mvK (a++b)=mvK a+mvK b
 | [],b=>by show mvK b=0+mvK b;omega
 | m::a,b=>by
  have:=oB a b
  show(m.parts.length+1)+mvK (a++b)=(m.parts.length+1)+mvK a+mvK b;omega
def wZ{ms:List MvM}{i:Nat}(h:i<ms.length):mvK (ms.take (i+1))=mvK (ms.take i)+(ms[i]!.parts.length+1):=by
 rw[aC h,oB,getElem!_of h];rfl
def Eu(ms:List MvM)(i:Nat):mvK (ms.take i)≤mvK ms:=by
 have h:=oB (ms.take i) (ms.drop i);rw[dq] at h;omega
def ew(sh:Int)(fl:List FlM)(mix:Int→Bool)(s:StM)(W:Wk):List MvM→Int×Wk
 | []=>(0,W)
 | m::ms=>if(dA sh fl mix s W m).1=0 then ew sh fl mix s (dA sh fl mix s W m).2 ms else((dA sh fl mix s W m).1,W)
noncomputable def gTry(S:LedM)(s:StM):Int×Wk :=
 if 65536≤S.steps.length then(4,wk0 S)
 else if ¬gu S.cat S.now s then(1,wk0 S)
 else ew S.shard S.flows (cu S.cat) (s.at (bu S)) (wk0 S) s.moves
noncomputable def gZ(S:LedM)(s:StM):LedM:={ S with stk:=(gTry S s).2.stk,tot:=(gTry S s).2.tot,steps:=S.steps++[s.at (bu S)],flows:=S.flows++(gTry S s).2.flows }
noncomputable def cS(S:LedM)(s:StM):LedM:=if(gTry S s).1=0 then gZ S s else S
noncomputable def gRes(S:LedM)(s:StM):Int:=if(gTry S s).1=0 then bu S else 0
structure LedG (k:Nat) (S:LedM):Prop where
 shard:0≤S.shard∧S.shard<12
 steps:S.steps.length≤65536
 flows:S.flows.length≤64*S.steps.length
 stk:∀a i,StkG k (S.shard*4294967296+S.flows.length) (S.stk a i)
 tot:∀i,-((S.flows.length:Int)*1099511627776)≤S.tot i∧S.tot i≤1099511627776
 fl:FlG S.flows
def Gy{k:Nat}{S:LedM}(h:LedG k S):WkG S.shard S.flows (k+mvK ([]:List MvM)) (wk0 S):=by
 have e:db S.shard S.flows.length (wk0 S)=S.shard*4294967296+S.flows.length:=by
  show S.shard*4294967296+(S.flows.length:Int)+((0:Nat):Int)=_;omega
 refine⟨fun a i=>by rw[e];exact h.stk a i,fun i=>?_,aI _,fun f hf=>by cases hf⟩;have:=h.tot i
 show -(((S.flows.length:Int)+((0:Nat):Int))*1099511627776)≤S.tot i∧S.tot i≤1099511627776;omega
def pQ{sh:Int}{fl:List FlM}{mix:Int→Bool}{s:StM}(a0:0≤sh):∀{ms:List MvM} {W:Wk} {k:Nat},WkG sh fl k W→(∀m∈ms,MvG m)→k+mvK ms≤2000→(ew sh fl mix s W ms).1=0→WkG sh fl (k+mvK ms) (ew sh fl mix s W ms).2∧(ew sh fl mix s W ms).2.flows.length=W.flows.length+ms.length
 | [],_,_,h,_,_,_=>⟨h,rfl⟩
 | m::ms,W,k,h,hm,hk,he=>by
  have e:ew sh fl mix s W (m::ms)=if(dA sh fl mix s W m).1=0 then ew sh fl mix s (dA sh fl mix s W m).2 ms else((dA sh fl mix s W m).1,W):=rfl;have ek:mvK (m::ms)=(m.parts.length+1)+mvK ms:=rfl;rw[e] at he ⊢;by_cases h1:(dA sh fl mix s W m).1=0
  ·rw[if_pos h1] at he ⊢;obtain⟨g1,g2⟩:=rD a0 h (hm m au) ab h1;obtain⟨i1,i2⟩:=pQ a0 (ms:=ms) g1 (fun x hx=>hm x (aw _ hx)) ab he;refine⟨by rw[ek,←dP,←dP];exact i1,?_⟩;rw[i2,g2,ax,aG,bE];omega
  ·rw[if_neg h1] at he;exact absurd he h1
def uD{S:LedM}{s:StM}(hp:gu S.cat S.now s)(h0:0≤S.now):0≤(gZ S s).now:=by
 unfold LedM.now gZ;simp only[List.getLast?_append,List.getLast?_singleton];have:=hp.2.2.1
 show 0≤s.tick;omega
def FP{c:CatM}{now:Int}{s:StM}(h:gu c now s):∀m∈s.moves,MvG m:=fun m hm=>by
 have a0:=h.2.2.2.2.1 m hm;refine⟨a0.1.2.1,a0.1.2.2.1,?_⟩;have h3:=a0.2;split at h3
 ·exact .inr h3
 ·exact .inl (aW h3)
def HA{k:Nat}{S:LedM}{s:StM}(h:LedG k S)(hk:k+mvK s.moves≤2000):LedG (k+mvK s.moves) (cS S s):=by
 unfold cS;by_cases he:(gTry S s).1=0
 case neg =>
  rw[if_neg he];exact⟨h.shard,h.steps,h.flows,fun a i=>(h.stk a i).mono ab (bG _),h.tot,h.fl⟩
 rw[if_pos he];have a3:=h.steps;have a2:=h.flows;by_cases h1:65536≤S.steps.length
 ·have e:gTry S s=(4,wk0 S):=by unfold gTry;rw[if_pos h1]
  rw[e] at he;exact absurd (show(4:Int)=0 from he) ag
 by_cases h2:gu S.cat S.now s
 case neg =>
  have e:gTry S s=(1,wk0 S):=by unfold gTry;rw[if_neg h1,if_pos h2]
  rw[e] at he;exact absurd (show(1:Int)=0 from he) ag
 have e:gTry S s=ew S.shard S.flows (cu S.cat) (s.at (bu S)) (wk0 S) s.moves:=by unfold gTry;rw[if_neg h1,if_neg (fun q=>q h2)]
 have a1:=h2.2.2.2.1;rw[e] at he;obtain⟨g1,g2⟩:=pQ h.shard.1 (Gy h) (FP h2) (by show k+0+_≤_;omega) he;unfold gZ;rw[e];have e0:(wk0 S).flows.length=0:=rfl;rw[e0,dj] at g2
 have a0:db S.shard S.flows.length (ew S.shard S.flows (cu S.cat) (s.at (bu S)) (wk0 S) s.moves).2=S.shard*4294967296+((S.flows++(ew S.shard S.flows (cu S.cat) (s.at (bu S)) (wk0 S) s.moves).2.flows).length:Int):=by
  unfold db;rw[ax];omega
 refine⟨h.shard,?_,?_,fun a i=>?_,fun i=>?_,fun f hf=>?_⟩
 ·show(S.steps++[_]).length≤_;rw[ax,aG];omega
 ·show(S.flows++_).length≤64*(S.steps++[_]).length;rw[ax,ax,aG,g2];omega
 ·dsimp only;rw[←a0];exact g1.stk a i
 ·have:=g1.tot i
  dsimp only;rw[ax];omega
 ·rcases List.mem_append.1 (show f∈S.flows++_ from hf) with q|q
  ·exact h.fl f q
  ·exact g1.flows f q
structure StInG (s:StV):Prop where
 len:s.moves.length≤1000000
 rule:I64 s.rule
 parts:∀m∈s.moves,m.m.parts.length≤9223372036854775807
 cap:∀m∈s.moves,m.m.parts.length≤m.pcap
 bd:∀m∈s.moves,∀p∈m.m.parts,p.1≤9223372036854775807
end
end Go.Proofs.YtommnllbflbdmaaGreatDoor
namespace Go.V
section
section
variable {P:Program}{N:Nat}{env:Env}{L:LH}{K:Post}{ty:TypeId}
def Enters.go{f:FuncId}(h:Enters P f)(args:Array Value)(w:World):(callFunc f args).run P w=.ok (.enter f args) w:=h args w
def EndR(θ:Th)(R:LH)(pr:Value→LH→Prop)(pp:List PanicEntry→LH→Prop):Ending→World→Prop
 | .returned v,w=>∃L',pr v L'∧Sat θ (L'++R) w
 | .panicked ch,w=>∃L',pp ch L'∧Sat θ (L'++R) w
 | .outgrown,_=>False
structure TriE (P:Program) (f:FuncId) (args:Array Value) (L:LH) (pr:Value→LH→Prop) (pp:List PanicEntry→LH→Prop):Prop where
 enters:Enters P f
 calls:∀θ R w,Sat θ (L++R) w→Calls P f args w (EndR θ R pr pp)
def TriE.mono{f:FuncId}{args:Array Value}{pr a1 : Value→LH→Prop}{pp a0 : List PanicEntry→LH→Prop}(h:TriE P f args L pr pp)(h1:∀v L,pr v L→a1 v L)(h2:∀v L,pp v L→a0 v L):TriE P f args L a1 a0 :=
 ⟨h.enters,fun θ R w s=>(h.calls θ R w s).mono fun e w' he=>by
  cases e with
  | returned v=>obtain⟨L',a,b⟩:=he;exact⟨L',h1 _ _ a,b⟩
  | panicked v=>obtain⟨L',a,b⟩:=he;exact⟨L',h2 _ _ a,b⟩
  | outgrown=>exact he⟩
def TriE.pre{f:FuncId}{args:Array Value}{L' : LH}{pr:Value→LH→Prop}{pp:List PanicEntry→LH→Prop}(h:TriE P f args L' pr pp)(hl:Ent L L'):TriE P f args L pr pp :=
 ⟨h.enters,fun θ R w s=>h.calls θ R w (hl θ R w s)⟩
def th(P:Program)(N:Nat)(rs:List ResultVar)(pr:Value→LH→Prop)(pp:List PanicEntry→LH→Prop):Post:=fun e env L=>match e with
 | .ret | .normal=>∀θ R w,Sat θ (L++R) w→∃vs L',ResOk P N env L rs vs∧Sat θ (L'++R) w∧pr (resV vs) L'
 | .panic ch=>∃L',Ent L L'∧pp ch L'
 | _=>False
def KX.m6{rs:List ResultVar}{pr:Value→LH→Prop}{pp:List PanicEntry→LH→Prop}{vs:LV}{L' : LH}(h1:ResOk P N env L rs vs)(h2:Ent L L')(h3:pr (resV vs) L'):th P N rs pr pp .normal env L:=fun θ R w s=>⟨vs,L',h1,h2 θ R w s,h3⟩
def KX.e9{rs:List ResultVar}{pr:Value→LH→Prop}{pp:List PanicEntry→LH→Prop}{ch:List PanicEntry}{L' : LH}(h2:Ent L L')(h3:pp ch L'):th P N rs pr pp (.panic ch) env L:=⟨L',h2,h3⟩
def KX.e8{n:Env→LH→Prop}{ch:List PanicEntry}(h:K (.panic ch) env L):Post.seq n K (.panic ch) env L:=h
def KX.d9{id:Nat}{ch:List PanicEntry}(h:K (.panic ch) env L):Post.inBlock id K (.panic ch) env L:=h
def mh{fn:Func}{tmps:Array Value}{R:Ending→World→Prop}{θ:Th}{Y:LH}{u:FrameMode}(hu:u≠.run):∀(M:List Nat) (w:World),Sat θ (mkH M++Y) w→(∀w',Sat θ Y w'→LeavesIn Fence.wide 0 P fn tmps R [] u w')→LeavesInM Fence.wide 0 P fn tmps R (mkD M) u w
 | [],w,s,h=>h w s
 | D::M,w,s,h=>by
  have s0:Sat θ (own D (.deferred (some []))::(mkH M++Y)) w:=s;have hb:=s0.own_heap;refine⟨hu,.inl ⟨D,{ w with heap:=w.heap.setIfInBounds D (.deferred none) },rfl,?_,?_⟩⟩
  ·simp[Instr.takeDeferred,getObj,setObj,Sem.run,hb,bind,Sem.bind,pure]
  ·have a0:D<w.heap.size:=(Array.getElem?_eq_some_iff.1 hb).1
   have s1:Sat θ (own D (.deferred none)::(mkH M++Y)) { w with heap:=w.heap.setIfInBounds D (.deferred none) }:=by
    refine s0.update ⟨s.1.tape,s.1.os,s.1.output,s.1.drawn⟩ (by simp[a0]) ?_;intro k x hk hx;simp only[Array.getElem?_setIfInBounds];rw[if_neg (fun e=>hk e.symm)];exact hx
   exact mh hu M _ s1.tail h
def EnvOk.d7{fn:Func}{args:LV}(hN:fn.ntmps=N)(a1 : args.length≤N):EnvOk N (env0 args 0) { tmps:=args.toArray++Array.replicate (fn.ntmps - args.toArray.size) undef,defers:=[] }:=by
 refine⟨by simp[hN];omega,?_⟩;intro t v ht;rw[qZ] at ht;simp at ht;have a0:t<args.length:=(List.getElem?_eq_some_iff.1 ht).1;rw[Array.getElem?_append_left (by simpa using a0)];simpa using ht
def TriE.body{f:FuncId}{fn:Func}{c:Code}{args:LV}{pr:Value→LH→Prop}{pp:List PanicEntry→LH→Prop}{rs:List ResultVar}(N:Nat)
  (he:Enters P f) (hf:P.funcs[f]? = some fn) (hb:fn.body=some c) (hr:fn.results=rs.toArray) (hN:fn.ntmps=N) (a5 : args.length≤N)
  (h:G P N c (env0 args 0) L (th P N rs pr pp)):TriE P f args.toArray L pr pp:=by
 refine⟨he,fun θ R w s=>(callsIn_wide (n:=0)).1 (callsIn_of_wp_marks hf hb trivial ?_)⟩;refine wpIn_mono (h none θ R _ w (fun l hl=>by cases hl) ⟨[],EnvOk.d7 hN a5,rfl,s⟩) ?_;rintro e a' w' ⟨env',L',⟨M,a4,hm,s'⟩,hex⟩
 have s1:Sat θ (mkH M++(L'++R)) w':=s'.perm (by
  rw[←aF,←aF];exact List.perm_append_comm.append_right R)
 have a2:(∀θ R w,Sat θ (L'++R) w→∃vs L'',ResOk P N env' L' rs vs∧Sat θ (L''++R) w∧pr (resV vs) L'')→LeavesInM Fence.wide 0 P fn a'.tmps (EndR θ R pr pp) a'.defers .returning w':=by
  intro a3;rw[hm];refine mh bH M w' s1 fun w₂ s₂=>?_;obtain⟨vs,L'',a6,a1,a0⟩:=a3 θ R w₂ s₂;exact⟨_,kd (P:=P) a4 s₂ hr a6,L'',a0,a1⟩
 cases e with
 | ret=>exact a2 hex
 | normal=>exact a2 hex
 | panic ch =>
  obtain⟨L'',a1,a0⟩:=hex;show LeavesInM Fence.wide 0 P fn a'.tmps (EndR θ R pr pp) a'.defers (.panicking ch) w';rw[hm];refine mh bH M w' s1 fun w₂ s₂=>?_;exact⟨L'',a0,a1 θ R w₂ s₂⟩
 | exit id=>exact hex.elim
 | goto l=>exact hex.elim
 | outgrown=>exact hex.elim
def GO.panic{a1:Array Oper}{rest:List Oper}{x:Operand}{t:TypeId}{v:Value}{pos:String}{af:Array Edge}(hx:evE env x=some (.iface t v))(h:K (.panic [{ v:=.iface t v,recovered:=false }]) env L):GO P N a1 (⟨none,.panic x,ty,pos,af,none⟩::rest) env L K:=by
 intro r θ Y a w hr i;refine wpListIn_plain rfl fun K' hK=>mm (fun c hc=>by cases hc) ?_
 have a0:(execOp a.eval ⟨none,.panic x,ty,pos,af,none⟩).run P w=.halt (.panic (.iface t v)) w:=by
  simp[execOp,aP i.agr hx,Instr.panic,goPanic]
 rw[Oper.wp,a0,Oper.upon_panic];exact⟨env,L,i,h⟩
def Ev.l5{t:TypeId}{x:Operand}{n:Nat}{v:Value}[ht:TyIS P t n](hx:evE env x=some v):Ev P L env (.makeInterface t x) ty (.iface t v) :=
 Ev.mk (fun θ R ρ w ea s _ _ _ _=>by
  simp[execOp,aP ea hx,Instr.makeInterface,run_underlying ht.under])
def Ev.B1{t xt:TypeId}{x:Operand}{n:Nat}{v:Value}[ht:TyIS P t n](hx:evE env x=some (.iface t v)):Ev P L env (.typeAssert x xt t true) ty (.tuple #[v,.bool true]) :=
 Ev.mk (fun θ R ρ w ea s _ _ _ _=>by
  simp[execOp,aP ea hx,Instr.typeAssert,run_underlying ht.under])
def Ev.B0{t xt:TypeId}{x:Operand}{n:Nat}{z:Value}[ht:TyIS P t n](hz:(P.info? t).map (·.zero)=some (some z))(hx:evE env x=some .nilIface):Ev P L env (.typeAssert x xt t true) ty (.tuple #[z,.bool false]) :=
 Ev.mk (fun θ R ρ w ea s _ _ _ _=>by
  cases hi:P.info? t with
  | none=>rw[hi] at hz;cases hz
  | some i =>
   rw[hi] at hz;simp at hz;simp[execOp,aP ea hx,Instr.typeAssert,run_underlying ht.under,zeroValue,typeInfo,hi,hz])
structure AtD (N:Nat) (env:Env) (L:LH) (θ:Th) (R:LH) (D:List Deferred) (a:Act) (w:World):Prop where
 eok:EnvOk N env a
 def_:a.defers=D
 sat:Sat θ (L++R) w
def AtD.ent{θ:Th}{R:LH}{D:List Deferred}{a:Act}{w:World}{L' : LH}(h:AtD N env L θ R D a w)(hl:Ent L L'):AtD N env L' θ R D a w:=⟨h.eok,h.def_,hl θ R w h.sat⟩
def DJ{a0:Array Oper}{Q:Exit→Act→World→Prop}{θ:Th}{R:LH}{D:List Deferred}{a:Act}{w:World}{rest:List Oper}{d:Nat}{op:Op}{pos:String}{af:Array Edge}{post:Value→LH→Prop}(i:AtD N env L θ R D a w)(he:Ef P L env op ty post)(hd:d<N)
  (h:∀v L' a' w',post v L'→AtD N ((d,v)::env) L' θ R D a' w'→wpList P a0 Q rest a' w'):wpList P a0 Q (⟨some d,op,ty,pos,af,none⟩::rest) a w :=
 wpList_plain rfl fun K' hK=>he θ R a w _ K' Q i.eok.agr i.sat rfl rfl fun v L' w' hp s'=>hK _ _ (h v L' _ w' hp ⟨i.eok.put hd _,i.def_,s'⟩)
def GX{a0:Array Oper}{Q:Exit→Act→World→Prop}{θ:Th}{R:LH}{D:List Deferred}{a:Act}{w:World}{rest:List Oper}{op:Op}{pos:String}{af:Array Edge}{post:Value→LH→Prop}(i:AtD N env L θ R D a w)(he:Ef P L env op ty post)
  (h:∀v L' a' w',post v L'→AtD N env L' θ R D a' w'→wpList P a0 Q rest a' w'):wpList P a0 Q (⟨none,op,ty,pos,af,none⟩::rest) a w :=
 wpList_plain rfl fun K' hK=>he θ R a w _ K' Q i.eok.agr i.sat rfl rfl fun v L' w' hp s'=>hK _ _ (h v L' _ w' hp ⟨i.eok,i.def_,s'⟩)
def vy{a0:Array Oper}{Q:Exit→Act→World→Prop}{θ:Th}{R:LH}{D:List Deferred}{a:Act}{w:World}{rest:List Oper}{d:Nat}{op:Op}{pos:String}{af:Array Edge}{v:Value}(i:AtD N env L θ R D a w)(he:Ev P L env op ty v)(hd:d<N)
  (h:∀a' w',AtD N ((d,v)::env) L θ R D a' w'→wpList P a0 Q rest a' w'):wpList P a0 Q (⟨some d,op,ty,pos,af,none⟩::rest) a w :=
 DJ i he.ef hd (by rintro _ _ a' w' ⟨rfl,rfl⟩ i';exact h a' w' i')
def DK{a1:Array Oper}{Q:Exit→Act→World→Prop}{θ:Th}{R:LH}{D:List Deferred}{a:Act}{w:World}{rest:List Oper}{x:Operand}{fv:Fn}{cap:Array Value}{pos:String}{af:Array Edge}(i:AtD N env L θ R D a w)(hx:evE env x=some (.func fv #[] cap))
  (h:∀a' w',AtD N env L θ R ({ target:=.fn fv cap,args:=#[] }::D) a' w'→wpList P a1 Q rest a' w'):wpList P a1 Q (⟨none,.defer { callee:=.value x,args:=#[],argTypes:=#[] },ty,pos,af,none⟩::rest) a w:=by
 refine wpList_plain rfl fun K' hK=>?_
 have a0:(execOp a.eval ⟨none,.defer { callee:=.value x,args:=#[],argTypes:=#[] },ty,pos,af,none⟩).run P w=.ok (.defer { target:=.fn fv cap,args:=#[] }) w:=by
  simp[execOp,resolve,Deferred.ofValue,aP i.eok.agr hx]
 rw[Oper.wp,a0,Oper.upon_defer];refine hK _ _ (h _ w ⟨⟨i.eok.size,i.eok.at_⟩,?_,i.sat⟩);show _::a.defers=_;rw[i.def_]
def DL{a1:Array Oper}{Q:Exit→Act→World→Prop}{θ:Th}{R:LH}{D:List Deferred}{a:Act}{w:World}{rest:List Oper}{d:Nat}{x:Operand}{f:FuncId}{cap:LV}{ats:Array TypeId}{pr:Value→LH→Prop}{pp:List PanicEntry→LH→Prop}{pre R' : LH}{pos:String}{af:Array Edge}(i:AtD N env L θ R D a w)(c:TriE P f cap.toArray pre pr pp)(hx:evE env x=some (.func (.func f) #[] cap.toArray))(hL:Ent L (pre++R'))(hd:d<N)
  (h:∀v L' a' w',pr v L'→AtD N ((d,v)::env) (L'++R') θ R D a' w'→wpList P a1 Q rest a' w')
  (h2:∀ch L' w',pp ch L'→AtD N env (L'++R') θ R D a w'→Q (.panic ch) a w'):wpList P a1 Q (⟨some d,.call { callee:=.value x,args:=#[],argTypes:=ats },ty,pos,af,none⟩::rest) a w:=by
 refine wpList_plain rfl fun K' hK=>?_
 have a0:(execOp a.eval ⟨some d,.call { callee:=.value x,args:=#[],argTypes:=ats },ty,pos,af,none⟩).run P w=.ok (.enter f cap.toArray) w:=by
  simp[execOp,resolve,Deferred.ofValue,invoke,aP i.eok.agr hx];exact c.enters _ _
 rw[Oper.wp,a0,Oper.upon_enter]
 have s0:Sat θ (pre++(R'++R)) w:=by
  rw[←aF];exact hL θ R w i.sat
 refine(c.calls θ (R'++R) w s0).mono ?_;rintro e w' he;cases e with
 | returned v =>
  obtain⟨L',hp,s'⟩:=he;exact hK _ _ (h v L' _ w' hp ⟨i.eok.put hd _,i.def_,by rw[aF];exact s'⟩)
 | panicked ch =>
  obtain⟨L',hp,s'⟩:=he;exact h2 ch L' w' hp ⟨i.eok,i.def_,by rw[aF];exact s'⟩
 | outgrown=>exact he.elim
def DI{a0:Array Oper}{Q:Exit→Act→List Frame→World→Prop}{cs:List Frame}{a:Act}{w:World}{rest:List Nat}{i:Nat}{o:Oper}(ho:a0[i]? = some o)(hg:o.guard=none)(h:o.wp P a w (fun a' w'=>wpOpsS P a0 Q rest a' cs w') (fun e a' w'=>Q e a' cs w')):wpOpsS P a0 Q (i::rest) a cs w:=by
 unfold wpOpsS;simp only[ho,Region.wanted,hg,if_true];unfold Oper.wp at h;split
 ·rename_i w' hr;rw[hr] at h;exact h.elim
 ·exact h
def vx{a0:Array Oper}{Q:Exit→Act→List Frame→World→Prop}{cs:List Frame}{θ:Th}{R:LH}{D:List Deferred}{a:Act}{w:World}{rest:List Nat}{i d:Nat}{op:Op}{pos:String}{af:Array Edge}{post:Value→LH→Prop}(ho:a0[i]? = some ⟨some d,op,ty,pos,af,none⟩)(s:AtD N env L θ R D a w)(he:Ef P L env op ty post)(hd:d<N)
  (h:∀v L' a' w',post v L'→AtD N ((d,v)::env) L' θ R D a' w'→wpOpsS P a0 Q rest a' cs w'):wpOpsS P a0 Q (i::rest) a cs w :=
 DI ho rfl (he θ R a w _ _ _ s.eok.agr s.sat rfl rfl fun v L' w' hp s'=>h v L' _ w' hp ⟨s.eok.put hd _,s.def_,s'⟩)
def tj{a0:Array Oper}{Q:Exit→Act→List Frame→World→Prop}{cs:List Frame}{θ:Th}{R:LH}{D:List Deferred}{a:Act}{w:World}{rest:List Nat}{i:Nat}{op:Op}{pos:String}{af:Array Edge}{post:Value→LH→Prop}(ho:a0[i]? = some ⟨none,op,ty,pos,af,none⟩)(s:AtD N env L θ R D a w)(he:Ef P L env op ty post)
  (h:∀v L' a' w',post v L'→AtD N env L' θ R D a' w'→wpOpsS P a0 Q rest a' cs w'):wpOpsS P a0 Q (i::rest) a cs w :=
 DI ho rfl (he θ R a w _ _ _ s.eok.agr s.sat rfl rfl fun v L' w' hp s'=>h v L' _ w' hp ⟨s.eok,s.def_,s'⟩)
def jr{a0:Array Oper}{Q:Exit→Act→List Frame→World→Prop}{cs:List Frame}{θ:Th}{R:LH}{D:List Deferred}{a:Act}{w:World}{rest:List Nat}{i d:Nat}{op:Op}{pos:String}{af:Array Edge}{v:Value}(ho:a0[i]? = some ⟨some d,op,ty,pos,af,none⟩)(s:AtD N env L θ R D a w)(he:Ev P L env op ty v)(hd:d<N)
  (h:∀a' w',AtD N ((d,v)::env) L θ R D a' w'→wpOpsS P a0 Q rest a' cs w'):wpOpsS P a0 Q (i::rest) a cs w :=
 vx ho s he.ef hd (by rintro _ _ a' w' ⟨rfl,rfl⟩ i';exact h a' w' i')
def AI{a:Act}{w:World}{d:Option Tmp}{pos:String}{af:Array Edge}:(execOp a.eval ⟨d,.call { callee:=.builtin .recover,args:=#[],argTypes:=#[] },ty,pos,af,none⟩).run P w=.ok .recover w:=by
 simp[execOp,resolve,invoke,builtin]
def GW{a0:Array Oper}{Q:Exit→Act→List Frame→World→Prop}{cs a1 : List Frame}{θ:Th}{R:LH}{D:List Deferred}{a:Act}{w:World}{rest:List Nat}{i d:Nat}{v:Value}{pos:String}{af:Array Edge}(ho:a0[i]? = some ⟨some d,.call { callee:=.builtin .recover,args:=#[],argTypes:=#[] },ty,pos,af,none⟩)(s:AtD N env L θ R D a w)(hr:recoverD cs=some (v,a1))(hd:d<N)
  (h:∀a' w',AtD N ((d,v)::env) L θ R D a' w'→wpOpsS P a0 Q rest a' a1 w'):wpOpsS P a0 Q (i::rest) a cs w:=by
 unfold wpOpsS;simp only[ho,Region.wanted,if_true,AI,hr];exact h _ _ ⟨s.eok.put hd _,s.def_,s.sat⟩
def FA{a0:Array Oper}{Q:Exit→Act→List Frame→World→Prop}{cs:List Frame}{θ:Th}{R:LH}{D:List Deferred}{a:Act}{w:World}{rest:List Nat}{i d:Nat}{pos:String}{af:Array Edge}(ho:a0[i]? = some ⟨some d,.call { callee:=.builtin .recover,args:=#[],argTypes:=#[] },ty,pos,af,none⟩)(s:AtD N env L θ R D a w)(hr:recoverD cs=none)(hd:d<N)
  (h:∀a' w',AtD N ((d,.nilIface)::env) L θ R D a' w'→wpOpsS P a0 Q rest a' cs w'):wpOpsS P a0 Q (i::rest) a cs w:=by
 unfold wpOpsS;simp only[ho,Region.wanted,if_true,AI,hr];exact h _ _ ⟨s.eok.put hd _,s.def_,s.sat⟩
end
end
section
section
variable {P:Program}{L:LH}{env:Env}{ty:TypeId}
def Ev.C1{t yt:TypeId}{x y:Operand}{k:IntKind}{a:Int}(hx:evE env x=some (ac a))(hy:evE env y=some (.int k 32)):Ev P L env (.binOp .shr t x y yt) ty (ac (a / 4294967296)):=by
 have h:=Ev.shr (P:=P) (L:=L) (ty:=ty) (t:=t) (yt:=yt) hx hy ag
 have e:a.fdiv (2 ^ min (32:Int).toNat IntKind.i64.bits)=a / 4294967296:=by
  rw[show(2:Int) ^ min (32:Int).toNat IntKind.i64.bits=4294967296 by decide];exact Int.fdiv_eq_ediv_of_nonneg a ag
 rw[e] at h;exact h
def Ev.o6{t yt:TypeId}{x y:Operand}{k:IntKind}{a:Int}(hx:evE env x=some (ac a))(hy:evE env y=some (.int k 32))(h0 : -2147483648≤a)(h1:a≤2147483647):Ev P L env (.binOp .shl t x y yt) ty (ac (a*4294967296)):=by
 have h:=Ev.shl (P:=P) (L:=L) (ty:=ty) (t:=t) (yt:=yt) hx hy ag
 have e:IntKind.i64.wrap (a*2 ^ min (32:Int).toNat IntKind.i64.bits)=a*4294967296:=by
  rw[show(2:Int) ^ min (32:Int).toNat IntKind.i64.bits=4294967296 by decide];exact kD ab ab
 rw[e] at h;exact h
