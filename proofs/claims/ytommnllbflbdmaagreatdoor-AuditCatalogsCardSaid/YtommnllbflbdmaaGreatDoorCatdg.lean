/- Lemmas. -/
import Derived.Test.YtommnllbflbdmaaGreatDoorCatci
import Derived.Test.YtommnllbflbdmaaGreatDoorCatde
set_option linter.all false
set_option maxHeartbeats 16000000
namespace Go.Proofs.YtommnllbflbdmaaGreatDoor
section
open Go.V
attribute [local irreducible] G GO GP GPW GPK GF GE Ev Ef EfR Ent CB GB V.Enters
noncomputable def repL:LedM→List StM→Option LedM
 | S,[]=>some S
 | S,s::ss=>if(gTry S s).1=0 then repL (cS S s) ss else none
def Ik{c:CatV}(hW:CatW c)(hg:CatGood c.m):c.B:=by
 obtain⟨l1,l2,l3,l4⟩:=lens hg;refine⟨l1,l2,ab,ab,fun r hr=>?_,fun t ht=>?_,fun t ht=>?_⟩
 ·have h:=hW.ru.2 r hr;have q1:=h.take.2;have q2:=h.give.2;have q3:=h.back.2;exact⟨ab,ab,ab⟩
 ·have h:=mZ hg t ht;refine⟨(nb h).1.2,fun w hw=>?_⟩;have:=((hW.tb.2 t ht).rows w hw).2.2
  show w.give.l.length≤64;omega
 ·have h:=hW.tx.2 t ht;have q:=h.len;show t.brs.length≤64;omega
def ve{L:LH}(sh:Int)(b3:0≤sh∧sh<12)(c:CatV)(hB:c.B)(hg:CatGood c.m)(b6:c.m.Ok)(ad:OA)(n cap:Nat)(ss:List StV)[hr:Rds L ad StV aX 7 ss](hn:n=ss.length)(hl:ss.length≤1000000)(c4:∀s∈ss,StInG s∧s.moves.length≤s.mcap)(hk:stK (ss.map StV.m)≤2000) :
  Tri ai 29 #[ac sh,aN c.cells,ae ad n cap] (catP c::cn::allP cR ss::L) (fun v L'=>(∃b S k,repL (led0 sh c.m) (ss.map StV.m)=some S∧(LedA k S∧k≤2000∧S.cat=c.m)∧v=.tuple #[aq b,ac 0]∧L' = ji b S::catP c::cn::allP cR ss::L)∨∃w,repL (led0 sh c.m) (ss.map StV.m)=none∧w≠0∧v=.tuple #[.pointer none,ac w]∧L' = catP c::cn::allP cR ss::L):=by
 subst hn;refine Tri.bd ?_;simp only[CatV.cells];refine IF ?_;intros;rename_i b4;refine GO.ent (L':=catP c::cn::(allP cR ss::obj b4 tCat c.cells::L)) (by simp only[CatV.cells];exact ah) ?_;refine GO.ca (sG sh c b3 hB hg) ?_;rintro _ _⟨lb,rfl,rfl⟩;simp only[CatV.cells];refine IF ?_;intros;refine G.loop (α:=Nat×LedM×Nat) (fun g=>g.1≤ss.length∧repL (led0 sh c.m) (ss.map StV.m)=repL g.2.1 ((ss.map StV.m).drop g.1)∧LedA g.2.2 g.2.1∧g.2.2+stK ((ss.map StV.m).drop g.1)≤2000∧0≤g.2.1.now∧g.2.1.cat=c.m) (fun g=>[(8,aq lb),(23,ae ad ss.length cap),(24,ac (ss.length:Int)),(25,ac (g.1:Int))]) (fun g=>ji lb g.2.1::catP c::cn::allP cR ss::L) (fun g=>ss.length - g.1) (0,led0 sh c.m,0) ⟨az _,rfl,xi b3 c.m,by dsimp only;rw[List.drop_zero];omega,bG _,rfl⟩ an ah ?_;rintro⟨i,T,k⟩ ⟨hi,hT,a4,b1,a9,a5⟩;dsimp only at hi hT a4 b1 a9 a5 ⊢;by_cases b2:i<ss.length
 case neg =>
  rw[bM (by rw[aA];omega)] at hT;refine IF ?_;intros;exact KX.d7 av ah (.inl ⟨lb,T,k,hT,⟨a4,ab,a5⟩,rfl,rfl⟩)
 have c1:(i:Int).toNat=i:=ab;have a2 : (i:Int).toNat<ss.length:=ab;have b9:(ss.map StV.m)[i]! = ss[(i:Int).toNat]!.m:=by rw[eD StV.m b2,c1]
 have b8:(ss.map StV.m).drop i=ss[(i:Int).toNat]!.m::(ss.map StV.m).drop (i+1):=by rw[←b9];exact fA (by rw[aA];exact b2)
 rw[b8] at hT b1;have c5:stK (ss[(i:Int).toNat]!.m::(ss.map StV.m).drop (i+1))=mvK ss[(i:Int).toNat]!.m.moves+stK ((ss.map StV.m).drop (i+1)):=rfl;obtain⟨c2,b7⟩:=c4 _ (aL a2);have a8:=(qA (s:=ss[(i:Int).toNat]!.m) a4 ab).1;have a6:=fun M:LH=>oq (L:=M) lb T k a4 (a5▸b6) a9 ss[(i:Int).toNat]! c2 b7 ab qo;have c0:(cS T ss[(i:Int).toNat]!.m).cat=c.m:=(nr _ _).trans a5;have a0:=fun M:LH=>pq (L:=M) a2;generalize hse:ss[(i:Int).toNat]! = s at *;by_cases a1:(gTry T s.m).1=0
 case neg =>
  have c6:cS T s.m=T:=if_neg a1;rw[repL,if_neg a1] at hT;obtain⟨w,hw⟩:∃w,(gTry T s.m).1=w:=⟨_,rfl⟩;rw[hw] at a6 a1;refine IF ?_;intros;rw[hse];simp only[aX];refine IF ?_;intros;rename_i a7;refine GO.ent (L':=ji lb T::stM s::stP s::(obj a7 cQ (aX s)::allP cR ss::catP c::cn::L)) ((Ent.at (A:=allP cR ss) (a0 _)).trans (by simp only[aX];exact ah)) ?_;refine GO.cr (a6 _) ?_;simp only[aX];refine IF ?_;intros;exact KX.en (.inr ⟨w,hT,a1,rfl,rfl⟩)
 have c3:=kR a1;have b0:=uD c3 a9;have b5:cS T s.m=gZ T s.m:=if_pos a1;have a3:repL (led0 sh c.m) (ss.map StV.m)=repL (cS T s.m) ((ss.map StV.m).drop (i+1)):=by rw[hT,repL,if_pos a1]
 rw[a1] at a6;refine IF ?_;intros;rw[hse];simp only[aX];refine IF ?_;intros;rename_i a7;refine GO.ent (L':=ji lb T::stM s::stP s::(obj a7 cQ (aX s)::allP cR ss::catP c::cn::L)) ((Ent.at (A:=allP cR ss) (a0 _)).trans (by simp only[aX];exact ah)) ?_;refine GO.cr (a6 _) ?_;simp only[aX];refine IF ?_;intros;refine⟨(i+1,cS T s.m,k+mvK s.m.moves),⟨by dsimp only;omega,a3,a8,by dsimp only;omega,by dsimp only;rw[b5];exact b0,c0⟩,by dsimp only;omega,?_,by exact ah⟩;dsimp only;rw[aU i];exact an
end
section
open Go.V
def IdsF(sh:Int):Nat→List StM→Prop
 | _,[]=>True
 | i,s::ss=>s.id=sh*4294967296+i∧IdsF sh (i+1) ss
def xx(S:LedM)(s:StM):(cS S s).shard=S.shard:=by
 unfold cS;split
 ·rfl
 ·rfl
def wl:∀{ss:List StM} {S S' : LedM},repL S ss=some S'→∃z,S'.flows=S.flows++z
 | [],S,S',h=>by
  rw[repL] at h;exact⟨[],by rw[←Option.some.inj h,aO]⟩
 | s::ss,S,S',h=>by
  rw[repL] at h;by_cases h1:(gTry S s).1=0
  ·rw[if_pos h1] at h;obtain⟨z,hz⟩:=wl h;obtain⟨w,hw⟩:=kr S s;exact⟨w++z,by rw[hz,hw,aF]⟩
  ·rw[if_neg h1] at h;cases h
def yc{fl:List FlM}:∀{ss:List StM} {S:LedM} {z:List FlM},fl=S.flows++z→IdsF S.shard S.steps.length ss→((audG fl S.steps.length S ss).1=0↔∃S',repL S ss=some S'∧S'.flows=fl)
 | [],S,z,hz,_=>by
  rw[oQ,repL];have hl:fl.length=S.flows.length+z.length:=by rw[hz,ax]
  by_cases h:S.flows.length<fl.length
  ·rw[if_pos h];refine⟨fun h=>absurd h (show ¬(20:Int)=0 by decide),?_⟩;rintro⟨S',h1,h2⟩;rw[←h2,←Option.some.inj h1] at h;exact absurd h (Nat.lt_irrefl _)
  ·rw[if_neg h];refine⟨fun _=>⟨S,rfl,?_⟩,fun _=>rfl⟩;have:z=[]:=List.length_eq_zero_iff.1 ab;rw[hz,this,aO]
 | s::ss,S,z,hz,⟨hi,hr⟩=>by
  rw[jY,if_neg (fun q=>q hi),repL];by_cases h1:(gTry S s).1=0
  case neg =>
   rw[if_pos h1,if_neg h1];exact⟨fun h=>absurd h h1,fun⟨_,h,_⟩=>by cases h⟩
  rw[if_neg (fun q=>q h1),if_pos h1];obtain⟨w,hw⟩:=kr S s;have hl:fl.length=S.flows.length+z.length:=by rw[hz,ax]
  have a4:(cS S s).flows.length=S.flows.length+w.length:=by rw[hw,ax]
  have a2:(cS S s).flows.drop S.flows.length=w:=by rw[hw,List.drop_left]
  have a3:fl.drop S.flows.length=z:=by rw[hz,List.drop_left]
  rw[a2,a3,a4,Nat.add_sub_cancel_left];by_cases h2:fl.length<S.flows.length+w.length∨w≠z.take w.length
  ·rw[if_pos h2];refine⟨fun h=>absurd h (show ¬(20:Int)=0 by decide),?_⟩;rintro⟨S',h3,h4⟩;obtain⟨y,hy⟩:=wl h3;rw[h4,hw,hz,aF] at hy;have a1:=List.append_cancel_left hy;rcases h2 with h2|h2
   ·rw[hl,a1,ax] at h2;omega
   ·rw[a1,List.take_left] at h2;exact absurd rfl h2
  ·rw[if_neg h2];have h3:w=z.take w.length:=Classical.byContradiction fun q=>h2 (.inr q);have a0:=nq h1
   have a5:fl=(cS S s).flows++z.drop w.length:=by
    rw[hw,hz,aF];congr 1;conv=>lhs;rw[←dq w.length z,←h3]
   rw[←a0];exact yc a5 (by rw[xx,a0];exact hr)
def AccL.ids:∀{ss:List StM} {S S' : LedM},AccL S ss S'→IdsF S.shard S.steps.length ss
 | [],_,_,_=>trivial
 | s::ss,S,S',.cons h1 h2 h3=>by
  have:=AccL.ids h3
  rw[xx,nq h1] at this;exact⟨h2,this⟩
structure LwI (c:CatM) (k m:Nat) (S:LedM):Prop where
 rep:LRep 0 c S
 a:LedA k S
 st:stK S.steps≤k
 lt:∀a i,stL a i S.steps≤m
 len:S.steps.length≤m
 now:0≤S.now
 cat:S.cat=c
 pt:∀s∈S.steps,∀x∈s.moves,x.parts=[]
 inp:∀s∈S.steps,I64 s.rule∧s.moves.length≤64
def ue(a i:Int):∀x y:List StM,stL a i (x++y)=stL a i x+stL a i y
 | [],y=>by show stL a i y=0+stL a i y;omega
 | s::x,y=>by
  have:=ue a i x y
  show lotsIn a i s.moves+stL a i (x++y)=lotsIn a i s.moves+stL a i x+stL a i y;omega
def LwI.zero(c:CatM):LwI c 0 0 (led0 0 c) :=
 ⟨.zero,xi ⟨by decide,by decide⟩ c,aI _,fun _ _=>aI _,aI _,bG _,rfl,fun s hs=>absurd hs (by simp[led0]),fun s hs=>absurd hs (by simp[led0])⟩
def LwI.post{c:CatM}{k m:Nat}{S:LedM}(h:LwI c k m S)(s:StM)(hk:k+mvK s.moves≤2000)(hl:∀a i,lotsIn a i s.moves≤1)(hp:∀x∈s.moves,x.parts=[])(hr:I64 s.rule∧s.moves.length≤64):LwI c (k+mvK s.moves) (m+1) (cS S s):=by
 have hA:=(qA (s:=s) h.a hk).1;have h1:=h.st;have h2:=h.len;by_cases q:(gTry S s).1=0
 ·have e:cS S s=gZ S s:=if_pos q;have es:(cS S s).steps=S.steps++[s.at (bu S)]:=by rw[e];rfl
  refine⟨.post h.rep q,hA,?_,fun a i=>?_,?_,?_,(nr _ _).trans h.cat,?_,?_⟩
  ·rw[es,nY];show stK S.steps+(mvK s.moves+0)≤_;omega
  ·rw[es,ue];have:=h.lt a i
   have:=hl a i
   show stL a i S.steps+(lotsIn a i s.moves+0)≤_;omega
  ·rw[es,ax];show S.steps.length+1≤_;omega
  ·rw[e];exact uD (kR q) h.now
  ·rw[es];intro u hu;rcases List.mem_append.1 hu with hu|hu
   ·exact h.pt u hu
   ·rw[List.mem_singleton.1 hu];exact hp
  ·rw[es];intro u hu;rcases List.mem_append.1 hu with hu|hu
   ·exact h.inp u hu
   ·rw[List.mem_singleton.1 hu];exact hr
 ·have e:cS S s=S:=if_neg q;rw[e] at hA ⊢;exact⟨h.rep,hA,ab,fun a i=>Nat.le_succ_of_le (h.lt a i),ab,h.now,h.cat,h.pt,h.inp⟩
def LwI.audS{c:CatM}{k m:Nat}{S:LedM}(h:LwI c k m S)(hk:k≤2000)(hm:m≤16){ss:List StV}(e:ss.map StV.m=S.steps)(hc:∀s∈ss,stC s):AudS ss:=by
 have hl:=congrArg List.length e;rw[aA] at hl;have h1:=h.len;have h2:=h.st;refine⟨ab,fun s hs=>?_,by rw[e];omega,fun a i=>by rw[e];have:=h.lt a i;omega⟩;have a0:s.m∈S.steps:=by rw[←e];exact alStd0List_mem_map_of_mem hs
 obtain⟨q1,q2⟩:=h.inp s.m a0;have q3:s.m.moves.length=s.moves.length:=aA _;obtain⟨p1,p2,p3⟩:=nA (ms:=s.moves) (fun x hx=>h.pt s.m a0 x.m (alStd0List_mem_map_of_mem (f:=MvV.m) hx));exact⟨⟨ab,q1,p1,p2,p3⟩,(hc s hs).1⟩
def LwI.fls{c:CatM}{k m:Nat}{S:LedM}(h:LwI c k m S)(hm:m≤16):S.flows.length≤1024∧∀f∈S.flows,f.parts.length≤2047∧f.made.length≤64:=by
 have h1:=h.a.g.flows;have h2:=h.len;exact⟨ab,fun f hf=>⟨(h.a.g.fl f hf).2,h.rep.made f hf⟩⟩
def LwI.sts{c:CatM}{k m:Nat}{S:LedM}(h:LwI c k m S):∀s∈S.steps,s.moves.length≤64∧∀u∈s.moves,u.parts.length≤1000000:=fun s hs=>⟨(h.inp s hs).2,fun u hu=>by rw[h.pt s hs u hu];decide⟩
def GH{f t:Int}{q:Int}{a i:Int}:∀{l:List (Int×Int)},(∀x∈l,i<x.1)→lotsIn a i ((l.map (fun x=>mvN f t x.1 (x.2*q))).map (·.m))=0
 | [],_=>rfl
 | x::l,h=>by
  have h1:=h x au;have h2:=GH (f:=f) (t:=t) (q:=q) (a:=a) (l:=l) (fun y hy=>h y (aw _ hy));show((if t=a∧x.1=i then 1 else 0)+(if f=a∧x.1=i then 0 else 0))+lotsIn a i ((l.map (fun x=>mvN f t x.1 (x.2*q))).map (·.m))=0;rw[h2,if_neg (fun q=>by omega),if_neg (fun q=>by omega)]
def CM{f t:Int}{q:Int}{a i:Int}:∀{l:List (Int×Int)},l.Pairwise (fun a b=>a.1<b.1)→lotsIn a i ((l.map (fun x=>mvN f t x.1 (x.2*q))).map (·.m))≤if t=a then 1 else 0
 | [],_=>az _
 | x::l,h=>by
  obtain⟨h1,h2⟩:=List.pairwise_cons.1 h;show((if t=a∧x.1=i then 1 else 0)+(if f=a∧x.1=i then 0 else 0))+lotsIn a i ((l.map (fun x=>mvN f t x.1 (x.2*q))).map (·.m))≤_;have h3:=CM (f:=f) (t:=t) (q:=q) (a:=a) (i:=i) h2;by_cases hi:x.1=i
  ·rw[GH (fun y hy=>by have:=h1 y hy;omega)];by_cases ht:t=a
   ·rw[if_pos ⟨ht,hi⟩,if_pos ht];split<;>omega
   ·rw[if_neg (fun q=>ht q.1)];split<;>omega
  ·rw[if_neg (fun q=>hi q.2),if_neg (fun q=>hi q.2)];omega
def EB{n:Nat}{q:Int}{tk gv:List (Int×Int)}(h1:fS n tk)(h2:fS n gv)(a i:Int):lotsIn a i ((kf 1 q tk gv).map (·.m))≤1:=by
 unfold kf;rw[aR,kA];have e1:=CM (f:=1) (t:=0) (q:=q) (a:=a) (i:=i) h1.2;have e2:=CM (f:=0) (t:=1) (q:=q) (a:=a) (i:=i) h2.2;by_cases h:(0:Int)=a
 ·rw[if_pos h] at e1;rw[if_neg ab] at e2;omega
 ·rw[if_neg h] at e1;have:(if(1:Int)=a then 1 else 0)≤1:=by split<;>omega
  omega
def Hj(s:StV)(L:LH):Ent (stO s::L) (cR s::L):=Ent.unstars2.trans (Ent.freezeSl.trans (Ent.e8 (bI _ _ _ _) (cG iQ)))
def HC(f:FlV)(L:LH):Ent (flO f::L) (flP f::L):=Ent.unstars2.trans (Ent.freezeSl.trans (Ent.swap.trans (Ent.freezeSl.trans (Ent.swap.trans (Ent.e8 (bI _ _ _ _) (bI _ _ _ _))))))
def FI(ss:List StV){L:LH}:Ent (bigO stO ss::L) (allP cR ss::L):=Ent.m5 lC Hj ss L
def xz(fs:List FlV){L:LH}:Ent (bigO flO fs::L) (allP flP fs::L):=Ent.m5 lr HC fs L
attribute [local irreducible] G GO GP GPW GPK Ev Ef EfR Ent CB GB V.Enters
abbrev Cv:=ar5 [.ef 8,.ev 9]
def am4{φ ψ:Prop}(k:ψ)(h:Hid ψ→φ:=by intro k;(repeat (first|refine aa ?_|intro zzz|refine G.dr 29 6 Cv ?_));(repeat revert zzz);exact Hid.out k):φ:=h ⟨k⟩
def xD{L:LH}(a1 a2:OA)(n1 n2 c1 c2:Nat)(fs gs:List FlV)[Rds L a1 FlV bT 11 fs][Rds L a2 FlV bT 11 gs](h1:n1=fs.length)(h2:n2=gs.length)(hl:fs.length≤1000000000)(hp:∀f∈gs,f.m.parts.length≤1000000000∧f.m.made.length≤1000000000)(hA:∀f∈fs,Ent L (flP f::L))(hB:∀f∈gs,Ent L (flP f::L)) :
  Tri ai 35 #[ae a1 n1 c1,ae a2 n2 c2] L (rtQ (.bool (dB (fs.map FlV.m=gs.map FlV.m))) L):=by
 subst h1 h2;refine Tri.bd ?_;by_cases he:fs.length=gs.length
 case neg =>
  rw[aM (fun h:fs.map FlV.m=gs.map FlV.m=>he (by have:=congrArg List.length h;simpa using this))];refine am4 ?_;intros;exact KX.en ⟨rfl,rfl⟩
 have b3:gs.length≤1000000000:=ab;refine am4 ?_;intros;refine G.loop (α:=Nat) (fun i=>i≤fs.length∧(fs.map FlV.m).take i=(gs.map FlV.m).take i) (fun i=>[(0,ae a1 fs.length c1),(1,ae a2 gs.length c2),(5,ac (i:Int))]) (fun _=>L) (fun i=>fs.length - i) 0 ⟨az _,by simp⟩ an (Ent.refl _) ?_;rintro i ⟨hi,ht⟩;by_cases a0:i<fs.length
 case neg =>
  have e:fs.map FlV.m=gs.map FlV.m:=by
   rw[aB (by rw[aA];omega),aB (by rw[aA];omega)] at ht;exact ht
  rw[aZ e];refine am4 ?_;intros;exact KX.en ⟨rfl,rfl⟩
 have b0:(i:Int).toNat=i:=ab;have hf:=aL a0;have hg:=aL (ab:i<gs.length);have a5:=hp _ hg;have a6:=hA _ hf;have a7:=hB _ hg;have a3:(fs.map FlV.m)[i]! = fs[i]!.m:=eD FlV.m a0;have a4:(gs.map FlV.m)[i]! = gs[i]!.m:=eD FlV.m ab;obtain⟨f,a8⟩:∃f,fs[i]! = f:=⟨_,rfl⟩;obtain⟨g,a9⟩:∃g,gs[i]! = g:=⟨_,rfl⟩;rw[a8] at a6 a3;rw[a9] at a5 a7 a4;have b1:fs[(i:Int).toNat]! = f:=by rw[b0];exact a8
 have b2:gs[(i:Int).toNat]! = g:=by rw[b0];exact a9
 refine G.ent (L':=isl ay 3 f.pad f.m.parts::isl (encZ .i64) 1 f.mad f.m.made::isl ay 3 g.pad g.m.parts::isl (encZ .i64) 1 g.mad g.m.made::L) ?_ ?_
 ·refine a6.trans (flP_open.trans ?_);refine Ent.trans (B:=isl ay 3 f.pad f.m.parts::isl (encZ .i64) 1 f.mad f.m.made::L) ah ?_;refine Ent.trans (Ent.d7 (Ent.d7 (a7.trans flP_open))) ?_;exact ah
 refine am4 ?_;intros;rw[b1,b2];refine GPW.cr (xC f g a5.1 a5.2) ?_;by_cases e:f.m=g.m
 ·rw[aZ e];refine am4 ?_;intros;refine⟨i+1,⟨ab,?_⟩,ab,?_,by exact ah⟩
  ·rw[aC (by rw[aA];exact a0),aC (by rw[aA];omega),ht,←getElem!_of (by rw[aA];exact a0),←getElem!_of (by rw[aA];omega),a3,a4,e]
  ·rw[aU i];exact an
 ·rw[aM e,aM (fun h:fs.map FlV.m=gs.map FlV.m=>e (by rw[←a3,←a4,h]))];refine am4 ?_;intros;exact KX.en ⟨rfl,rfl⟩
def vQ{L:LH}(b:Nat)(S:LedM)(hS:∀s∈S.steps,s.moves.length≤64∧∀u∈s.moves,u.parts.length≤1000000)(a0:S.steps.length≤100000) :
  Tri ai 25 #[aq b] (ji b S::L) (fun v L'=>∃ad cap ss U,v=ae ad ss.length cap∧(ss.map StV.m=S.steps∧(∀s∈ss,stC s)∧U.flows=S.flows)∧L' = osl aX 7 cQ ad cap ss::bigO stO ss::LedR b U::L):=by
 refine Tri.e7 (g:=qz b S) en25.1 ?_;intro x;show Tri _ _ _ (dy (LedFG S x)::ledL b S.shard x L) _;refine Tri.d9 en25.1 ?_;intro hF;refine((yu (L:=L) b (S.asX x) hS a0).pre (jP (S:=S.asX x) x hF.toF)).mono ?_;rintro v L' ⟨ad,cap,ss,h1,⟨h2,h3⟩,h4⟩;exact⟨ad,cap,ss,S.asX x,h1,⟨h2,h3,rfl⟩,h4⟩
def Ak{L:LH}(b:Nat)(S:LedM)(hS:∀f∈S.flows,f.parts.length≤1000000∧f.made.length≤1000000)(a0:S.flows.length≤100000) :
  Tri ai 26 #[aq b] (ji b S::L) (fun v L'=>∃ad cap fs U,v=ae ad fs.length cap∧fs.map FlV.m=S.flows∧L' = osl bT 11 dz ad cap fs::bigO flO fs::LedR b U::L):=by
 refine Tri.e7 (g:=qz b S) en26.1 ?_;intro x;show Tri _ _ _ (dy (LedFG S x)::ledL b S.shard x L) _;refine Tri.d9 en26.1 ?_;intro hF;refine((nE (L:=L) b (S.asX x) hS a0).pre (jP (S:=S.asX x) x hF.toF)).mono ?_;rintro v L' ⟨ad,cap,fs,h1,h2,h4⟩;exact⟨ad,cap,fs,S.asX x,h1,h2,h4⟩
def wk{sh:Int}{c:CatM}:∀{ss:List StM} {S S' : LedM},LRep sh c S→repL S ss=some S'→LRep sh c S'∧S'.steps.length=S.steps.length+ss.length
 | [],S,S',h,e=>by
  rw[repL] at e;rw[←Option.some.inj e];exact⟨h,rfl⟩
 | s::ss,S,S',h,e=>by
  rw[repL] at e;by_cases h1:(gTry S s).1=0
  ·rw[if_pos h1] at e;obtain⟨g1,g2⟩:=wk (.post h h1) e;have:=nq h1
   exact⟨g1,by rw[bE];omega⟩
  ·rw[if_neg h1] at e;cases e
def spV(b:Nat)(t x n:Int):StV:=⟨0,0,0,t,-1,0,[⟨⟨0,1,x,n,[]⟩,none,0⟩],some ⟨b,0,none⟩,1⟩
def FK{b:Nat}{x n:Int}{L:LH}:Ent (obj b tMv [ac 0,ac 1,ac x,ac n,ae none 0 0]::L) (isl aT 5 (some ⟨b,0,none⟩) [(⟨⟨0,1,x,n,[]⟩,none,0⟩:MvV)]::allP mvP [(⟨⟨0,1,x,n,[]⟩,none,0⟩:MvV)]::L) :=
 (Ent.e9 (enc:=aT) (sz:=5) (xs:=[(⟨⟨0,1,x,n,[]⟩,none,0⟩:MvV)]) (n:=1) rfl rfl (fun _ _=>rfl) ag).trans (Ent.freezeSl.trans (Ent.d7 ((Ent.f8 ay 3 none).trans (Ent.l0 (f:=mvP) (x:=(⟨⟨0,1,x,n,[]⟩,none,0⟩:MvV)) iQ))))
def Hk{b:Nat}(t:Int){x n:Int}{L:LH}:Ent (obj b tMv [ac 0,ac 1,ac x,ac n,ae none 0 0]::L) (stM (spV b t x n)::stP (spV b t x n)::L):=FK
def HQ(b:Nat)(t x n:Int):StInG (spV b t x n)∧(spV b t x n).moves.length≤(spV b t x n).mcap:=by
 obtain⟨h1,h2,h3⟩:=nA (ms:=(spV b t x n).moves) (fun m hm=>by rw[List.mem_singleton.1 hm]);exact⟨⟨by show 1≤1000000;decide,by show I64 (-1);unfold I64;decide,h1,h2,h3⟩,aI _⟩
def LwI.sp{c:CatM}{k m:Nat}{S:LedM}(h:LwI c k m S)(hk:k+1≤2000)(b:Nat)(t x n:Int):LwI c (k+1) (m+1) (cS S (spV b t x n).m):=by
 have hl:∀a i,lotsIn a i (spV b t x n).m.moves≤1:=fun a i=>by
  show((if(1:Int)=a∧x=i then 1 else 0)+(if(0:Int)=a∧x=i then 0 else 0))+0≤1;split<;>split<;>omega
 exact h.post (spV b t x n).m hk hl (fun u hu=>by rw[List.mem_singleton.1 hu]) ⟨by show I64 (-1);unfold I64;decide,by show 1≤64;decide⟩
def pfV(i:Int)(f:Bool)(r:RuV)(mad:OA)(mcap:Nat):StV:=⟨0,4,1,i,jz i f,1,kf 1 1 r.take.l (eC r f).l,mad,mcap⟩
def FS{n:Nat}{r:RuV}(h:RuW n r.m)(i:Int)(hi:0≤i∧i<100)(f:Bool)(mad:OA)(mcap:Nat):StInG (pfV i f r mad mcap)∧mvK (pfV i f r mad mcap).m.moves≤6∧(∀a j,lotsIn a j (pfV i f r mad mcap).m.moves≤1)∧(∀u∈(pfV i f r mad mcap).m.moves,u.parts=[])∧I64 (pfV i f r mad mcap).m.rule∧(pfV i f r mad mcap).m.moves.length≤64:=by
 obtain⟨l1,l2,l3⟩:=h.len;change r.take.l.length≤3 at l1;change r.give.l.length≤3 at l2;change r.back.l.length≤3 at l3
 have hg:fS n (eC r f).l∧(eC r f).l.length≤3:=by
  unfold eC;split
  ·exact⟨h.back,l3⟩
  ·exact⟨h.give,l2⟩
 have hp:=qP 1 1 r.take.l (eC r f).l;obtain⟨h1,h2,h3⟩:=nA hp
 have a1:(kf 1 1 r.take.l (eC r f).l).length≤6:=by
  unfold kf;rw[ax,aA,aA];omega
 have hr:I64 (jz i f):=by
  unfold jz I64;split<;>omega
 have a0:∀u∈(pfV i f r mad mcap).m.moves,u.parts=[]:=fun u hu=>by
  obtain⟨w,hw,rfl⟩:=List.mem_map.1 hu;exact hp w hw
 have a2:(pfV i f r mad mcap).m.moves.length=(kf 1 1 r.take.l (eC r f).l).length:=aA _;exact⟨⟨by show(kf 1 1 r.take.l (eC r f).l).length≤1000000;omega,hr,h1,h2,h3⟩,by rw[oA a0];omega,EB h.take hg.1,a0,hr,ab⟩
end
section
open Go.V
attribute [local irreducible] G GO GP GPW GPK GF GE Ev Ef EfR Ent CB GB V.Enters
def sZ{c:CatM}(h:CatGood c):c.Ok:=⟨fun r hr a ha=>⟨by have:=(h.ru r hr).take.1 a ha;omega,((h.ru r hr).take.1 a ha).2.2.2⟩,fun r hr a ha=>⟨by have:=(h.ru r hr).give.1 a ha;omega,((h.ru r hr).give.1 a ha).2.2.2⟩,fun r hr a ha=>⟨by have:=(h.ru r hr).back.1 a ha;omega,((h.ru r hr).back.1 a ha).2.2.2⟩⟩
abbrev Cw:=ar3 [.ev 4,.ev 7,.ef 5,.ev 6,.ef 8,.ef 9]
def an0{φ ψ:Prop}(k:ψ)(h:Hid ψ→φ:=by intro k;(repeat (first|refine aa ?_|intro zzz|refine G.dr 133 15 Cw ?_));(repeat revert zzz);exact Hid.out k):φ:=h ⟨k⟩
def qm{L:LH}(ad:OA)(n c:Nat)(xs:List Int)[hrd:Rds L ad Int (encZ .i64) 1 xs](hn:n=xs.length)(f9:n≤9223372036854775807)(hx:∀x∈xs,I64 x)(mad:OA)(mn mc:Nat)(ys:List Int)[i3:Rds L mad Int (encZ .i64) 1 ys](e4:mn=ys.length)(f7:mn≤9223372036854775807)(hy:∀x∈ys,I64 x) :
  Tri ai 7 #[ae ad n c,ae mad mn mc] (cn::L) (rtQ (.bool true) L):=by
 subst hn e4;refine Tri.bd ?_;refine an0 ?_;intros;refine GO.ca (vl ad xs.length c xs rfl hx) ?_;rintro _ _⟨cv,rfl,⟨hg,hB,h9⟩,rfl⟩;have a5:=sZ hg;simp only[CatV.cells];refine an0 ?_;intros;rename_i b5;refine GO.ent (L':=catP cv::(obj b5 tCat cv.cells::cn::L)) (by simp only[CatV.cells];exact ah) ?_;refine GO.ca (Dv cv (Ij hg h9) mad ys.length mc ys rfl hy) ?_;rintro _ _⟨d,rfl,hW,rfl⟩;simp only[CatV.cells];refine an0 ?_;intros;rename_i b6;refine GO.ent (L':=catP cv::cn::(obj b6 tCat d.cells::catP d::obj b5 tCat cv.cells::L)) (by simp only[CatV.cells];exact ah) ?_;refine GO.ca (sG 0 cv ⟨by decide,by decide⟩ hB hg) ?_;rintro _ _⟨lb,rfl,rfl⟩;simp only[CatV.cells];refine an0 ?_;intros;refine G.loop (α:=Nat×LedM×Nat×Nat) (fun g=>g.1≤cv.rules.length∧LwI cv.m g.2.2.1 g.2.2.2 g.2.1∧g.2.2.1≤9*min g.1 4∧g.2.2.2≤4*min g.1 4) (fun g=>[(1,ae mad ys.length mc),(5,aq b5),(6,aq b6),(7,aq lb),(9,ac (g.1:Int))]) (fun g=>ji lb g.2.1::isl bj 9 cv.rad cv.rules::allP ruP cv.rules::catP cv::cn::obj b6 tCat [ae d.iad d.items.length d.icap,ae d.rad d.rules.length d.rcap,ae d.tad d.tables.length d.tcap,ae d.xad d.taxes.length d.xcap]::catP d::obj b5 tCat [ae cv.iad cv.items.length cv.icap,ae cv.rad cv.rules.length cv.rcap,ae cv.tad cv.tables.length cv.tcap,ae cv.xad cv.taxes.length cv.xcap]::L) (fun g=>cv.rules.length - g.1) (0,led0 0 cv.m,0,0) ⟨az _,LwI.zero _,aI _,aI _⟩ an ((Ent.at (A:=catP cv) catS_open).trans (by simp only[catS];exact ah)) ?_;rintro⟨i,S,k,m⟩ ⟨hi,hS,hk,hm⟩;dsimp only at hi hS hk hm ⊢;obtain⟨i4,q,i2,f6⟩:=h9.ru;by_cases c7:i<cv.rules.length
 case neg =>
  have c8:m≤16:=ab;have e2:k≤2000:=ab;obtain⟨d6,a4⟩:=hS.fls c8;have e3:=hS.len;refine an0 ?_;intros;refine GO.ent (L':=ji lb S::(catP cv::cn::obj b6 tCat [ae d.iad d.items.length d.icap,ae d.rad d.rules.length d.rcap,ae d.tad d.tables.length d.tcap,ae d.xad d.taxes.length d.xcap]::catP d::obj b5 tCat [ae cv.iad cv.items.length cv.icap,ae cv.rad cv.rules.length cv.rcap,ae cv.tad cv.tables.length cv.tcap,ae cv.xad cv.taxes.length cv.xcap]::L)) ah ?_;refine GO.ca (vQ lb S hS.sts ab) ?_;rintro _ _⟨sad,scap,ss,U,rfl,⟨a8,f5,b1⟩,rfl⟩;refine an0 ?_;intros;refine GO.ent (L':=LedR lb U::(osl aX 7 cQ sad scap ss::bigO stO ss::catP cv::cn::obj b6 tCat [ae d.iad d.items.length d.icap,ae d.rad d.rules.length d.rcap,ae d.tad d.tables.length d.tcap,ae d.xad d.taxes.length d.xcap]::catP d::obj b5 tCat [ae cv.iad cv.items.length cv.icap,ae cv.rad cv.rules.length cv.rcap,ae cv.tad cv.tables.length cv.tcap,ae cv.xad cv.taxes.length cv.xcap]::L)) ah ?_;refine GO.ca (nE lb U (by rw[b1];exact fun f hf=>by have:=a4 f hf;omega) (by rw[b1];omega)) ?_;rintro _ _⟨fad,fcap,fs,rfl,a6,rfl⟩;rw[b1] at a6;refine GO.d8 (gg (ad:=fad) (cap:=fcap) (xs:=fs) (enc:=bT) (sz:=11) (E:=dz)) ?_;rintro⟨d5,_⟩;have e0:fs.length=S.flows.length:=by rw[←a6,aA]
  have c5:∀f∈fs,f.m.parts.length≤2047∧f.m.made.length≤64:=fun f hf=>a4 f.m (by rw[←a6];exact alStd0List_mem_map_of_mem hf);have c9:AudFl fs:=⟨ab,fun f hf=>by have:=c5 f hf;omega⟩;have b0:=hS.audS e2 c8 a8 f5;have a3:=hS.rep.acc;have h6:S.cat=cv.m:=hS.cat
  have h0:audF 0 cv.m (ss.map StV.m) (fs.map FlV.m)=(0,0,0):=by
   rw[a8,a6];unfold audF;rw[if_pos ⟨by decide,by decide⟩];exact yd a3
  have i5:ss.length=S.steps.length:=by rw[←a8,aA]
  refine GO.ent (L':=catP cv::(allP cR ss::isl aX 7 sad ss::allP flP fs::isl bT 11 fad fs::cn::obj b6 tCat [ae d.iad d.items.length d.icap,ae d.rad d.rules.length d.rcap,ae d.tad d.tables.length d.tcap,ae d.xad d.taxes.length d.xcap]::catP d::obj b5 tCat [ae cv.iad cv.items.length cv.icap,ae cv.rad cv.rules.length cv.rcap,ae cv.tad cv.tables.length cv.tcap,ae cv.xad cv.taxes.length cv.xcap]::L)) ?_ ?_
  ·refine(Ent.at (A:=bigO stO ss) (FI ss)).trans ?_;refine(Ent.at (A:=osl aX 7 cQ sad scap ss) Ent.freezeSl).trans ?_;refine(Ent.at (A:=bigO flO fs) (xz fs)).trans ?_;refine(Ent.at (A:=osl bT 11 dz fad fcap fs) Ent.freezeSl).trans ?_;exact ah
  have hd:=fun (M:LH) (c:CatV) (hB:c.B) (hc:c.m.Ok)=>oX (L:=allP cR ss::isl aX 7 sad ss::allP flP fs::isl bT 11 fad fs::M) 0 c hB hc sad ss.length scap ss rfl b0 (fun s hs=>Ent.d9 (f:=cR) hs) fad fs.length fcap fs rfl c9 d5 (fun f hf=>(Ent.at (A:=allP flP fs) (Ent.d9 (f:=flP) hf)).trans ah);have c1:=fun M=>hd M cv hB a5;rw[h0] at c1;refine an0 ?_;intros;refine GO.cr (c1 _) ?_;simp only[gk];refine an0 ?_;intros;refine GO.ent (L':=catS d (catP d::allP cR ss::isl aX 7 sad ss::allP flP fs::isl bT 11 fad fs::cn::obj b6 tCat [ae d.iad d.items.length d.icap,ae d.rad d.rules.length d.rcap,ae d.tad d.tables.length d.tcap,ae d.xad d.taxes.length d.xcap]::obj b5 tCat [ae cv.iad cv.items.length cv.icap,ae cv.rad cv.rules.length cv.rcap,ae cv.tad cv.tables.length cv.tcap,ae cv.xad cv.taxes.length cv.xcap]::L)) ((Ent.at (A:=catP d) catS_open).trans (by simp only[catS];exact ah)) ?_;refine GO.ca (ym d hW) ?_;rintro _ _⟨e,rfl,he,rfl⟩;by_cases c4:e=0
  case neg =>
   simp only[catS];refine an0 ?_;intros;refine GO.ent (L':=cn::L) ah ?_;refine GO.cr (mQ) ?_;refine an0 ?_;intros;exact KX.en ⟨rfl,rfl⟩
  have b4:=he c4;have c2:=Ik hW b4;have c3:=sZ b4;subst c4;have b7:IdsF 0 0 (ss.map StV.m):=by rw[a8];exact a3.ids
  have a0:(audG (fs.map FlV.m) 0 (led0 0 d.m) (ss.map StV.m)).1=0↔∃T,repL (led0 0 d.m) (ss.map StV.m)=some T∧T.flows=fs.map FlV.m:=yc (S:=led0 0 d.m) (z:=fs.map FlV.m) rfl b7;have b3:=fun M=>hd M d c2 c3;rw[show audF 0 d.m (ss.map StV.m) (fs.map FlV.m)=audG (fs.map FlV.m) 0 (led0 0 d.m) (ss.map StV.m) from if_pos ⟨by decide,by decide⟩] at b3;generalize audG (fs.map FlV.m) 0 (led0 0 d.m) (ss.map StV.m)=FD at *;obtain⟨f1,f2,f3⟩:=FD;dsimp only at a0;simp only[catS];refine an0 ?_;intros;refine GO.ent (L':=catP d::cn::allP cR ss::(catP d::isl aX 7 sad ss::allP flP fs::isl bT 11 fad fs::obj b6 tCat [ae d.iad d.items.length d.icap,ae d.rad d.rules.length d.rcap,ae d.tad d.tables.length d.tcap,ae d.xad d.taxes.length d.xcap]::L)) ((Ent.at (A:=catP d) (Ent.dup (mY d).pers)).trans ah) ?_;refine GO.ca (ve 0 ⟨by decide,by decide⟩ d c2 b4 c3 sad ss.length scap ss rfl ab b0.inp b0.k) ?_;rintro _ _ (⟨rb,T,kT,hT,⟨c0,h5,h3⟩,rfl,rfl⟩|⟨w,hT,hw,rfl,rfl⟩)
  case inr =>
   have d4:f1≠0:=fun h=>by
    obtain⟨T,h1,_⟩:=a0.1 h;rw[hT] at h1;cases h1
   refine an0 ?_;intros;refine GO.ent (L':=catP d::(allP cR ss::isl aX 7 sad ss::allP flP fs::isl bT 11 fad fs::(cn::obj b6 tCat [ae d.iad d.items.length d.icap,ae d.rad d.rules.length d.rcap,ae d.tad d.tables.length d.tcap,ae d.xad d.taxes.length d.xcap]::L))) ah ?_;refine GO.cr (b3 _) ?_;simp only[gk];refine an0 ?_;intros;refine GO.ev (Ev.r7 (off:=0) (fs:=Tryz.prog.fieldsOf tFnd) (fd:=(Tryz.prog.fieldsOf tFnd)[0]!) krStd0 krStd0 krStd0 (fun _=>krStd0) rfl rfl) ag ?_;refine an0 ?_;intros;refine GO.ev (Ev.v8 (φ:=False) (ψ:=f1=0) (by rw[aM id];rfl) rfl) ag ?_;rw[aZ (⟨fun h=>h.elim,fun h=>d4 h⟩:False↔f1=0)];refine an0 ?_;intros;refine GO.ent (L':=cn::L) ah ?_;refine GO.cr (mQ) ?_;refine an0 ?_;intros;exact KX.en ⟨rfl,rfl⟩
  obtain⟨d3,d1⟩:=wk .zero hT;have d2:T.steps.length=ss.length:=by rw[d1,aA];exact dj _
  have h4:=c0.g.flows;have d0:∀f∈T.flows,f.parts.length≤2047∧f.made.length≤64:=fun f hf=>⟨(c0.g.fl f hf).2,d3.made f hf⟩;refine an0 ?_;intros;refine GO.ent (L':=ji rb T::(allP cR ss::isl aX 7 sad ss::allP flP fs::isl bT 11 fad fs::cn::catP d::obj b6 tCat [ae d.iad d.items.length d.icap,ae d.rad d.rules.length d.rcap,ae d.tad d.tables.length d.tcap,ae d.xad d.taxes.length d.xcap]::L)) ah ?_;refine GO.ca (Ak rb T (fun f hf=>by have:=d0 f hf;omega) ab) ?_;rintro _ _⟨a9,a2,gs,V,rfl,c6,rfl⟩;have h7:gs.length=T.flows.length:=by rw[←c6,aA]
  refine GO.ent (L':=isl bT 11 a9 gs::allP flP gs::allP cR ss::isl aX 7 sad ss::allP flP fs::isl bT 11 fad fs::cn::catP d::obj b6 tCat [ae d.iad d.items.length d.icap,ae d.rad d.rules.length d.rcap,ae d.tad d.tables.length d.tcap,ae d.xad d.taxes.length d.xcap]::L) ((Ent.at (A:=bigO flO gs) (xz gs)).trans ((Ent.at (A:=osl bT 11 dz a9 a2 gs) Ent.freezeSl).trans ah)) ?_;refine an0 ?_;intros;refine GO.cr (xD a9 fad gs.length fs.length a2 fcap gs fs rfl rfl ab (fun f hf=>by have:=c5 f hf;omega) (fun f hf=>(Ent.at (A:=allP flP gs) (Ent.d9 (f:=flP) hf)).trans ah) (fun f hf=>(Ent.at (A:=allP flP fs) (Ent.d9 (f:=flP) hf)).trans ah)) ?_
  have e1:(gs.map FlV.m=fs.map FlV.m)↔f1=0:=by
   rw[a0,c6];constructor
   ·intro h;exact⟨T,hT,h⟩
   ·rintro⟨T',h1,h2⟩;rw[hT] at h1;rw[Option.some.inj h1];exact h2
  refine an0 ?_;intros;refine GO.ent (L':=catP d::(allP cR ss::isl aX 7 sad ss::allP flP fs::isl bT 11 fad fs::(cn::obj b6 tCat [ae d.iad d.items.length d.icap,ae d.rad d.rules.length d.rcap,ae d.tad d.tables.length d.tcap,ae d.xad d.taxes.length d.xcap]::L))) ah ?_;refine GO.cr (b3 _) ?_;simp only[gk];refine an0 ?_;intros;refine GO.ev (Ev.r7 (off:=0) (fs:=Tryz.prog.fieldsOf tFnd) (fd:=(Tryz.prog.fieldsOf tFnd)[0]!) krStd0 krStd0 krStd0 (fun _=>krStd0) rfl rfl) ag ?_;refine an0 ?_;intros;refine GO.ent (L':=cn::L) ah ?_;refine GO.cr (mQ) ?_;refine an0 ?_;intros;exact KX.en ⟨rfl,rfl⟩
 have b8:(i:Int).toNat=i:=ab;have a1:=aL c7;have b9:=h9.rw _ a1;by_cases hs:cv.rules[i]!.spawn=true
 ·refine an0 ?_;intros;rw[b8];rw[hs];refine an0 ?_;intros;refine⟨(i+1,S,k,m),⟨by dsimp only;omega,hS,by dsimp only;omega,by dsimp only;omega⟩,by dsimp only;omega,?_,by exact ah⟩;dsimp only;rw[aU i];exact an
 have f4 : cv.rules[i]!.spawn=false:=by simpa using hs
 have h8:i<4:=by
  refine Classical.byContradiction fun h=>hs ?_;exact f6 i ab c7
 refine an0 ?_;intros;rw[b8];rw[f4];obtain⟨r,hr⟩:∃r,cv.rules[i]! = r:=⟨_,rfl⟩;rw[hr] at b9 a1;have f0:=b9.len.1;change r.take.l.length≤3 at f0;refine an0 ?_;intros;refine G.loop (α:=Nat×LedM×Nat×Nat) (fun g=>g.1≤r.take.l.length∧LwI cv.m g.2.2.1 g.2.2.2 g.2.1∧g.2.2.1≤9*i+g.1∧g.2.2.2≤4*i+g.1) (fun g=>[(1,ae mad ys.length mc),(5,aq b5),(6,aq b6),(7,aq lb),(9,ac (i:Int)),(10,ac (g.1:Int))]) (fun g=>ji lb g.2.1::amS r.take::isl bj 9 cv.rad cv.rules::allP ruP cv.rules::catP cv::cn::obj b6 tCat [ae d.iad d.items.length d.icap,ae d.rad d.rules.length d.rcap,ae d.tad d.tables.length d.tcap,ae d.xad d.taxes.length d.xcap]::catP d::obj b5 tCat [ae cv.iad cv.items.length cv.icap,ae cv.rad cv.rules.length cv.rcap,ae cv.tad cv.tables.length cv.tcap,ae cv.xad cv.taxes.length cv.xcap]::L) (fun g=>r.take.l.length - g.1) (0,S,k,m) ⟨az _,hS,by dsimp only;omega,by dsimp only;omega⟩ an ((Ent.at (A:=allP ruP cv.rules) ((Ent.d9 (f:=ruP) a1).trans pz)).trans ah) ?_;clear hS hk hm;rintro⟨j,S,k,m⟩ ⟨hj,hS,hk,hm⟩;dsimp only at hj hS hk hm ⊢;have a7:cv.rules[(i:Int).toNat]! = r:=by rw[b8];exact hr
 by_cases i1:j<r.take.l.length
 case pos =>
  have i0:(j:Int).toNat=j:=ab;have b2:S.cat.Ok:=by rw[hS.cat];exact a5
  refine an0 ?_;intros;rw[a7];refine an0 ?_;intros;rw[a7];refine an0 ?_;intros;rename_i g0 bm;obtain⟨h1,h2⟩:=HQ bm (i:Int) r.take.l[(j:Int).toNat]!.1 r.take.l[(j:Int).toNat]!.2;refine GO.ent (L':=ji lb S::stM (spV bm (i:Int) r.take.l[(j:Int).toNat]!.1 r.take.l[(j:Int).toNat]!.2)::stP (spV bm (i:Int) r.take.l[(j:Int).toNat]!.1 r.take.l[(j:Int).toNat]!.2)::(amS r.take::isl bj 9 cv.rad cv.rules::allP ruP cv.rules::catP cv::cn::obj b6 tCat [ae d.iad d.items.length d.icap,ae d.rad d.rules.length d.rcap,ae d.tad d.tables.length d.tcap,ae d.xad d.taxes.length d.xcap]::catP d::obj b5 tCat [ae cv.iad cv.items.length cv.icap,ae cv.rad cv.rules.length cv.rcap,ae cv.tad cv.tables.length cv.tcap,ae cv.xad cv.taxes.length cv.xcap]::L)) ((Hk (i:Int)).trans ah) ?_;refine GO.cr (oq lb S k hS.a b2 hS.now (spV bm (i:Int) r.take.l[(j:Int).toNat]!.1 r.take.l[(j:Int).toNat]!.2) h1 h2 (ab:k+1≤2000) qo) ?_;refine an0 ?_;intros;refine⟨(j+1,cS S (spV bm (i:Int) r.take.l[(j:Int).toNat]!.1 r.take.l[(j:Int).toNat]!.2).m,k+1,m+1),⟨by dsimp only;omega,hS.sp ab _ _ _ _,by dsimp only;omega,by dsimp only;omega⟩,by dsimp only;omega,?_,by exact ah⟩;dsimp only;rw[aU j];exact an
 refine an0 ?_;intros;rw[a7];refine an0 ?_;intros;refine GPW.ca (wP mad ys.length mc ys rfl hy (i:Int) 3 ⟨by decide,by decide⟩) ?_;rintro _ _⟨p,rfl,_,rfl⟩;refine an0 ?_;intros
 have e6:∀M:LH,Tri ai 32 #[aN cv.cells,ac (i:Int),.bool (dB (p=0)),ac 1,ac 1,ac (i:Int)] (catP cv::M) (fun v L'=>∃mad mcap,v=.agg (aX (pfV (i:Int) (dB (p=0)) r mad mcap)).toArray∧(pfV (i:Int) (dB (p=0)) r mad mcap).moves.length≤(pfV (i:Int) (dB (p=0)) r mad mcap).mcap∧L' = stM (pfV (i:Int) (dB (p=0)) r mad mcap)::catP cv::M):=fun M=>by
  have h:=rt (L:=M) cv hB a5 (i:Int) ⟨ab,ab⟩ (dB (p=0)) 1 1 (i:Int) ⟨by decide,by decide⟩;rw[a7] at h;exact h
 refine GPW.ent (L':=catP cv::(ji lb S::isl bj 9 cv.rad cv.rules::allP ruP cv.rules::catP cv::cn::obj b6 tCat [ae d.iad d.items.length d.icap,ae d.rad d.rules.length d.rcap,ae d.tad d.tables.length d.tcap,ae d.xad d.taxes.length d.xcap]::catP d::obj b5 tCat [ae cv.iad cv.items.length cv.icap,ae cv.rad cv.rules.length cv.rcap,ae cv.tad cv.tables.length cv.tcap,ae cv.xad cv.taxes.length cv.xcap]::L)) ((Ent.at (A:=catP cv) (Ent.dup (mY cv).pers)).trans ah) ?_;refine GPW.ca (e6 _) ?_;rintro _ _⟨pad,pcap,rfl,e5,rfl⟩;obtain⟨g1,g2,g3,g4,g5,g6⟩:=FS b9 (i:Int) ⟨ab,ab⟩ (dB (p=0)) pad pcap;have g7:∀x∈(pfV (i:Int) (dB (p=0)) r pad pcap).moves,x.m.parts=[]:=qP 1 1 _ _;have b2:S.cat.Ok:=by rw[hS.cat];exact a5
 generalize pfV (i:Int) (dB (p=0)) r pad pcap=sv at *;have g8:=hS.post sv.m ab g3 g4 ⟨g5,g6⟩;refine an0 ?_;intros;refine GPW.ent (L':=ji lb S::stM sv::stP sv::(isl bj 9 cv.rad cv.rules::allP ruP cv.rules::catP cv::cn::obj b6 tCat [ae d.iad d.items.length d.icap,ae d.rad d.rules.length d.rcap,ae d.tad d.tables.length d.tcap,ae d.xad d.taxes.length d.xcap]::catP d::obj b5 tCat [ae cv.iad cv.items.length cv.icap,ae cv.rad cv.rules.length cv.rcap,ae cv.tad cv.tables.length cv.tcap,ae cv.xad cv.taxes.length cv.xcap]::L)) ((wY sv.moves g7).trans ah) ?_;refine GPW.cr (oq lb S k hS.a b2 hS.now sv g1 e5 ab qo) ?_;refine an0 ?_;intros;refine⟨(i+1,cS S sv.m,k+mvK sv.m.moves,m+1),⟨by dsimp only;omega,g8,by dsimp only;omega,by dsimp only;omega⟩,by dsimp only;omega,?_,by exact ah⟩;dsimp only;rw[aU i];exact an
