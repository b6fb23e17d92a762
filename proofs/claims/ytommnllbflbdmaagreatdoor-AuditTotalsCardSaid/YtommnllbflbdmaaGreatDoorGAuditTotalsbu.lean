/- Lemmas and contracts of functions. -/
import Derived.Test.YtommnllbflbdmaaGreatDoorGAuditTotalsbq
import Derived.Test.YtommnllbflbdmaaGreatDoorGAuditTotalsbt
import Derived.Test.YtommnllbflbdmaaGreatDoorGAuditTotalsbm
set_option linter.all false
set_option maxHeartbeats 4000000
namespace Go.Proofs.YtommnllbflbdmaaGreatDoor
section
open Go.V
def exS:StM:=⟨0,0,0,0,-1,0,[⟨0,1,0,5,[]⟩]⟩
def exT (n:Int):StM:=⟨0,2,0,0,-1,0,[⟨1,2,0,n,[]⟩]⟩
def exF0:FlM:=⟨0,0,0,0,0,0,1,0,5,[],[]⟩
def exF1 (a:Int):FlM:=⟨1,1,2,0,0,1,2,0,3,[(0,a,3)],[]⟩
def exW1:Wk:=⟨upd2 (fun _ _=>[]) 1 0 [(0,0,5)],upd (fun _=>0) 0 5,[exF0],[]⟩
def exL1:LedM:={ led0 0 cat22 with stk:=exW1.stk,tot:=exW1.tot,steps:=[exS],flows:=[exF0] }
def exW2:Wk:=⟨upd2 (upd2 exW1.stk 1 0 [(0,3,2)]) 2 0 [(1,0,3)],upd exW1.tot 0 5,[exF1 0],[]⟩
def exL2:LedM:={ exL1 with stk:=exW2.stk,tot:=exW2.tot,steps:=[exS,(exT 3).at 1],flows:=[exF0,exF1 0] }
theorem exM1:gM 0 0 (bC cat22) exS (wk0 (led0 0 cat22)) exS.moves=(0,exW1):=rfl
theorem exG1:dL 0 [] (bC cat22) exS (wk0 (led0 0 cat22)) exS.moves=(0,exW1):=rfl
theorem exM2:gM 0 1 (bC cat22) ((exT 3).at 1) (wk0 exL1) (exT 3).moves=(0,exW2):=rfl
theorem exG2:dL 0 [exF0] (bC cat22) ((exT 3).at 1) (wk0 exL1) (exT 3).moves=(0,exW2):=rfl
theorem exG3:(dL 0 [exF0] (bC cat22) ((exT 6).at 1) (wk0 exL1) (exT 6).moves).1=10:=rfl
theorem Bl {k:Int} (h:¬(k=5∨k=7∨k=9)):fN k=false:=by unfold fN;exact aC h
theorem exP (now:Int) (h:now=0) {s:StM} (hs:s=exS∨s=exT 3∨s=exT 6):fm cat22 now s∧lg cat22 now s:=by
 subst h
 rcases hs with rfl|rfl|rfl
 all_goals
  refine ⟨⟨⟨by decide,by decide⟩,⟨by decide,by decide⟩,⟨by decide,by decide⟩,⟨by decide,by decide⟩,fun m hm=>?_,?_⟩,⟨⟨by decide,by decide⟩,⟨by decide,by decide,by decide⟩,⟨by decide,by decide⟩,fun m hm=>?_,?_⟩⟩
  ·rw [List.mem_singleton.1 hm]
   refine ⟨⟨⟨by decide,by decide⟩,⟨by decide,by decide⟩,by decide,by decide,by decide,by decide,by decide⟩,?_⟩
   rw [Bl ac,if_neg ac]
   rfl
  ·refine ⟨fun m hm=>?_,rfl,rfl⟩
   rw [List.mem_singleton.1 hm]
   decide
  ·rw [List.mem_singleton.1 hm]
   refine aL ⟨⟨by decide,by decide⟩,⟨by decide,by decide⟩,⟨by decide,by decide⟩,⟨by decide,by decide⟩,by decide,?_,?_,rfl⟩
   ·unfold lR
    first|exact aL ac|(rw [if_pos ac];exact aL ac)|(rw [if_neg ac,if_neg ac];exact aL ac)
   ·unfold kTo
    rw [if_neg ac,if_neg ac]
    exact aL ac
  ·show iL _ _
   unfold iL
   rw [if_neg ac]
   exact ⟨rfl,rfl⟩
theorem yB {S:LedM} {s:StM} (h1:¬65536≤S.steps.length) (h2:lg S.cat S.now s):tryM S s=gM S.shard S.flows.length (bC S.cat) (s.at (aK S)) (wk0 S) s.moves:=by
 unfold tryM
 rw [if_neg h1,if_neg (not_not_intro h2)]
theorem sg {S:LedM} {s:StM} (h1:¬65536≤S.steps.length) (h2:fm S.cat S.now s):gTry S s=dL S.shard S.flows (bC S.cat) (s.at (aK S)) (wk0 S) s.moves:=by
 unfold gTry
 rw [if_neg h1,if_neg (not_not_intro h2)]
theorem Cv:tryM (led0 0 cat22) exS=(0,exW1):=(yB (by show ¬65536≤0;decide) (exP 0 rfl (.inl rfl)).2).trans exM1
theorem AF:gTry (led0 0 cat22) exS=(0,exW1):=(sg (by show ¬65536≤0;decide) (exP 0 rfl (.inl rfl)).1).trans exG1
theorem Cu:tryM exL1 (exT 3)=(0,exW2):=(yB (by show ¬65536≤1;decide) (exP 0 rfl (.inr (.inl rfl))).2).trans exM2
theorem ua:gTry exL1 (exT 3)=(0,exW2):=(sg (by show ¬65536≤1;decide) (exP 0 rfl (.inr (.inl rfl))).1).trans exG2
theorem DK:(gTry exL1 (exT 6)).1=10:=(congrArg Prod.fst (sg (by show ¬65536≤1;decide) (exP 0 rfl (.inr (.inr rfl))).1)).trans exG3
theorem lu (S:LedM) (s:StM) (id:Int):gTry S (s.at id)=gTry S s:=rfl
theorem yQ:jX (led0 0 cat22) exS=exL1:=by
 have e:(tryM (led0 0 cat22) exS).1=0:=by rw [Cv]
 unfold jX
 rw [if_pos e]
 unfold ld
 rw [Cv]
 rfl
theorem EL:jX exL1 (exT 3)=exL2:=by
 have e:(tryM exL1 (exT 3)).1=0:=by rw [Cu]
 unfold jX
 rw [if_pos e]
 unfold ld
 rw [Cu]
 rfl
theorem FA:dd (led0 0 cat22) exS=exL1:=by
 have e:(gTry (led0 0 cat22) exS).1=0:=by rw [AF]
 unfold dd
 rw [if_pos e]
 unfold gw
 rw [AF]
 rfl
theorem DL:dd exL1 ((exT 3).at 1)=exL2:=by
 have e:(gTry exL1 ((exT 3).at 1)).1=0:=by rw [lu,ua]
 unfold dd
 rw [if_pos e]
 unfold gw
 rw [lu,ua]
 rfl
theorem vJ (fl:List FlM) (s:StM) (h:fl=[exF0,exF1 0]∨fl=[exF0,exF1 1]):audF 0 cat22 [exS,s] fl=audG fl 1 exL1 [s]:=by
 unfold audF
 rw [if_pos ac,kP,if_neg ac,if_neg (by rw [AF];decide),FA]
 rw [if_neg]
 rintro (q|q)
 ·rcases h with rfl|rfl
  ·exact absurd q (by show ¬2<1;decide)
  ·exact absurd q (by show ¬2<1;decide)
 ·rcases h with rfl|rfl
  ·exact q rfl
  ·exact q rfl
theorem Fo:audF 0 cat22 [exS,(exT 3).at 1] [exF0,exF1 0]=(0,0,0):=by
 rw [vJ _ _ (.inl rfl),kP,if_neg ac,if_neg (by rw [lu,ua];decide),DL,if_neg,wd,if_neg ac]
 rintro (q|q)
 ·exact absurd q (by show ¬2<2;decide)
 ·exact q rfl
theorem Fm:audF 0 cat22 [exS,(exT 3).at 1] [exF0,exF1 1]=(20,0,1):=by
 rw [vJ _ _ (.inr rfl),kP,if_neg ac,if_neg (by rw [lu,ua];decide),DL,if_pos]
 ·rfl
 ·refine .inr fun q=>?_
  have e:exF1 0=exF1 1:=List.cons.inj q |>.1
  have e2:((exF1 0).parts.head!).2.1=((exF1 1).parts.head!).2.1:=by rw [e]
  exact absurd e2 ac
theorem Fl:audF 0 cat22 [exS,(exT 6).at 1] [exF0,exF1 1]=(10,0,1):=by
 rw [vJ _ _ (.inr rfl),kP,if_neg ac,if_pos (by rw [lu,DK];decide),lu,DK]
 rfl
end
section
open Go.V
attribute [local irreducible] G GO GP GPW GPK Ev Ef EfR Ent CB GB V.Enters
structure AllI (f:Int→Int→Int) (l:List Hd):Prop where
 srt:l.Pairwise klt
 val:∀ h∈l,h.2.2=f h.1 h.2.1
 all:∀ a i,f a i≠0→(a,i,f a i)∈l
theorem all0:AllI (fun _ _=>0) []:=⟨List.Pairwise.nil,fun _ h=>absurd h aO,fun _ _ h=>absurd rfl h⟩
theorem BV {x y z:Hd} (h1:klt x y) (h2:klt y z):klt x z:=by unfold klt at *;omega
theorem rC {l:List Hd} {k:Nat} (h:k<l.length):l=l.take k++l[k]!::l.drop (k+1):=by
 conv=>lhs;rw [← dT k l,ew h]
theorem AllI.rep {f:Int→Int→Int} {l:List Hd} (h:AllI f l) {k:Nat} (hk:k<l.length) {n:Int}:AllI (updH f l[k]!.1 l[k]!.2.1 n) (l.take k++[(l[k]!.1,l[k]!.2.1,n)]++l.drop (k+1)):=by
 have hs:=h.srt
 have hv:=h.val
 have ha:=h.all
 rw [rC hk] at hs hv ha
 generalize l[k]! = y at *
 generalize l.take k=p at *
 generalize l.drop (k+1)=q at *
 rw [az,List.singleton_append]
 obtain ⟨s1,s2,s3⟩:=List.pairwise_append.1 hs
 obtain ⟨t1,t2⟩:=List.pairwise_cons.1 s2
 have hpk:∀ x∈p,klt x y:=fun x hx=>s3 x hx y ap
 refine ⟨List.pairwise_append.2 ⟨s1,List.pairwise_cons.2 ⟨fun z hz=>t1 z hz,t2⟩,fun x hx z hz=>?_⟩,fun x hx=>?_,fun a i hne=>?_⟩
 ·rcases List.mem_cons.1 hz with e|hz
  ·rw [e]
   exact hpk x hx
  ·exact s3 x hx z (ao _ hz)
 ·have hkey:∀ z,klt z y∨klt y z→updH f y.1 y.2.1 n z.1 z.2.1=f z.1 z.2.1:=fun z hz=>by
   unfold updH
   rw [if_neg (fun e=>by unfold klt at hz;omega)]
  rcases List.mem_append.1 hx with hx|hx
  ·rw [hkey x (.inl (hpk x hx))]
   exact hv x (bQ _ hx)
  ·rcases List.mem_cons.1 hx with e|hx
   ·rw [e]
    unfold updH
    rw [if_pos ⟨rfl,rfl⟩]
   ·rw [hkey x (.inr (t1 x hx))]
    exact hv x (bY _ (ao _ hx))
 ·by_cases e:a=y.1∧i=y.2.1
  ·obtain ⟨rfl,rfl⟩:=e
   unfold updH
   rw [if_pos ⟨rfl,rfl⟩]
   exact bY _ ap
  ·have e2:updH f y.1 y.2.1 n a i=f a i:=if_neg e
   rw [e2] at hne ⊢
   rcases List.mem_append.1 (ha a i hne) with hx|hx
   ·exact bQ _ hx
   ·rcases List.mem_cons.1 hx with e3|hx
    ·exact absurd ⟨by rw [← e3],by rw [← e3]⟩ e
    ·exact bY _ (ao _ hx)
theorem AllI.ins {f:Int→Int→Int} {l:List Hd} (h:AllI f l) {k:Nat} {a i n:Int} (h1:∀ x∈l.take k,klt x (a,i,0)) (h2:∀ x∈l.drop k,klt (a,i,0) x):AllI (updH f a i n) (l.take k++[(a,i,n)]++l.drop k)∧f a i=0:=by
 have hs:=h.srt
 have hv:=h.val
 have ha:=h.all
 rw [← dT k l] at hs hv ha
 generalize l.take k=p at *
 generalize l.drop k=q at *
 rw [az,List.singleton_append]
 obtain ⟨s1,s2,s3⟩:=List.pairwise_append.1 hs
 have hkey:∀ z,klt z (a,i,0)∨klt (a,i,0) z→¬(z.1=a∧z.2.1=i):=fun z hz e=>by
  unfold klt at hz
  dsimp only at hz
  omega
 refine ⟨⟨List.pairwise_append.2 ⟨s1,List.pairwise_cons.2 ⟨fun z hz=>h2 z hz,s2⟩,fun x hx z hz=>?_⟩,fun x hx=>?_,fun b j hne=>?_⟩,?_⟩
 ·rcases List.mem_cons.1 hz with e|hz
  ·rw [e]
   exact h1 x hx
  ·exact s3 x hx z hz
 ·rcases List.mem_append.1 hx with hx|hx
  ·unfold updH
   rw [if_neg (hkey x (.inl (h1 x hx)))]
   exact hv x (bQ _ hx)
  ·rcases List.mem_cons.1 hx with e|hx
   ·rw [e]
    unfold updH
    rw [if_pos ⟨rfl,rfl⟩]
   ·unfold updH
    rw [if_neg (hkey x (.inr (h2 x hx)))]
    exact hv x (bY _ hx)
 ·by_cases e:b=a∧j=i
  ·obtain ⟨rfl,rfl⟩:=e
   unfold updH
   rw [if_pos ⟨rfl,rfl⟩]
   exact bY _ ap
  ·have e2:updH f a i n b j=f b j:=if_neg e
   rw [e2] at hne ⊢
   rcases List.mem_append.1 (ha b j hne) with hx|hx
   ·exact bQ _ hx
   ·exact bY _ (ao _ hx)
 ·refine Classical.byContradiction fun hne=>?_
  rcases List.mem_append.1 (ha a i hne) with hx|hx
  ·exact hkey _ (.inl (h1 _ hx)) ⟨rfl,rfl⟩
  ·exact hkey _ (.inr (h2 _ hx)) ⟨rfl,rfl⟩
theorem AllI.hold {f:Int→Int→Int} {l:List Hd} (h:AllI f l) (hI:HldI f):HoldL f (l.filter (fun x=>decide (0<x.2.2))):=by
 refine ⟨h.srt.sublist fT,fun x=>?_⟩
 rw [List.mem_filter]
 constructor
 ·rintro ⟨h1,h2⟩
  have h2:=of_decide_eq_true h2
  exact ⟨h.val x h1,ab⟩
 ·rintro ⟨e1,e2⟩
  have h3:=h.all x.1 x.2.1 (by rw [← e1];exact e2)
  have h4:=(hI.bd x.1 x.2.1).1
  rw [← e1] at h3 h4
  exact ⟨h3,decide_eq_true ab⟩
theorem AllI.get {f:Int→Int→Int} {l:List Hd} (h:AllI f l) {k:Nat} (hk:k<l.length):l[k]!.2.2=f l[k]!.1 l[k]!.2.1:=h.val _ (aG hk)
theorem oz {L:List HP} (ad:Option Addr) (n c:Nat) (l:List Hd) [Rds L ad Hd cV 3 l] (hn:n=l.length) (hl:l.length≤1000000) (f:Int→Int→Int) (hI:AllI f l) (a i:Int) :
  Tri Tryz.prog 60 #[.slice ad n c,.int .i64 a,.int .i64 i] L (fun v L'=>v=.int .i64 (f a i)∧L' = L):=by
 subst hn
 refine Tri.body (args:=[.slice ad l.length c,.int .i64 a,.int .i64 i]) 35 en60 Tryz.func60 rfl rfl rfl (by simp) ?_
 repeat first|refine aa ?_|intro
 refine G.loop (α:=Nat) (fun k=>k≤l.length∧∀ j,j<k→¬(l[j]!.1=a∧l[j]!.2.1=i)) (fun k=>[(0,.slice ad l.length c),(1,.int .i64 a),(2,.int .i64 i),(7,.int .i64 (k:Int))]) (fun _=>L) (fun k=>l.length - k) 0 ⟨al _,fun j hj=>absurd hj (bI j)⟩ ai (Ent.refl _) ?_
 rintro k ⟨hk,hkl⟩
 by_cases hlt:k<l.length
 case neg =>
  have e:f a i=0:=Classical.byContradiction fun hne=>by
   have hm:=hI.all a i hne
   obtain ⟨j,hj,e⟩:=List.mem_iff_getElem.1 hm
   refine hkl j ab ?_
   rw [getElem!_of hj,e]
   exact ⟨rfl,rfl⟩
  rw [e]
  repeat first|refine aa ?_|intro
  exact KX.d7 ag (Ent.refl _) ⟨rfl,rfl⟩
 have hkk:(k:Int).toNat=k:=av k
 have hlt' : (k:Int).toNat<l.length:=ab
 have hnx:¬(l[k]!.1=a∧l[k]!.2.1=i)→∀ j,j<k+1→¬(l[j]!.1=a∧l[j]!.2.1=i):=fun q j hj=>by
  rcases bG j k with h|h
  ·exact hkl j h
  ·obtain rfl:j=k:=ab
   exact q
 by_cases e1:l[k]!.1=a
 ·by_cases e2:l[k]!.2.1=i
  ·have hv:=hI.get hlt
   rw [e1,e2] at hv
   rw [← hv]
   have e1' : l[(k:Int).toNat]!.1=a:=by rw [hkk];exact e1
   have e2' : l[(k:Int).toNat]!.2.1=i:=by rw [hkk];exact e2
   repeat first|refine aa ?_|intro
   exact KX.d7 ag (Ent.refl _) ⟨by rw [hkk];rfl,rfl⟩
  ·have e1' : l[(k:Int).toNat]!.1=a:=by rw [hkk];exact e1
   have e2' : ¬l[(k:Int).toNat]!.2.1=i:=by rw [hkk];exact e2
   repeat first|refine aa ?_|intro
   refine ⟨k+1,⟨ab,hnx (fun q=>e2 q.2)⟩,ab,?_,Ent.refl _⟩
   rw [aM k]
   exact ai
 ·have e1' : ¬l[(k:Int).toNat]!.1=a:=by rw [hkk];exact e1
  repeat first|refine aa ?_|intro
  refine ⟨k+1,⟨ab,hnx (fun q=>e1 q.1)⟩,ab,?_,Ent.refl _⟩
  rw [aM k]
  exact ai
end
section
open Go.V
attribute [local irreducible] G GO GP GPW GPK Ev Ef EfR Ent CB GB V.Enters
abbrev BD:List Stp:=[.ev 0,.ev 1,.ev 2,.ev 3,.ev 4,.ev 5,.ev 6,.ev 7,.ev 8,.ef 9]
theorem dQ {φ ψ:Prop} (k:ψ) (h:Hid ψ→φ:=by intro k;(with_reducible apply G.d8);first|refine G.d7 (N:=96) (id:=8) BD mixed an (Hid.out k)):φ:=h ⟨k⟩
theorem wi {L:List HP} (ad:Option Addr) (cap n c:Nat) (l:List Hd) (hn:n=l.length) (hcc:c=cap) (hl:l.length≤1000000) (f:Int→Int→Int) (hI:AllI f l) (a i u:Int) (hu1 : -9223372036854775808≤f a i+u) (hu2:f a i+u≤9223372036854775807) :
  Tri Tryz.prog 61 #[.slice ad n c,.int .i64 a,.int .i64 i,.int .i64 u] (osl cV 3 tHd ad cap l::L) (fun v L'=>∃ ad' cap' l',v=.slice ad' l'.length cap'∧(AllI (updH f a i (f a i+u)) l'∧l'.length≤l.length+1)∧L' = osl cV 3 tHd ad' cap' l'::L):=by
 subst hn hcc
 refine Tri.body (args:=[.slice ad l.length c,.int .i64 a,.int .i64 i,.int .i64 u]) 96 en61 Tryz.func61 rfl rfl rfl (by simp) ?_
 repeat first|refine aa ?_|intro _|refine dQ ?_
 refine G.loop (α:=Nat) (fun k=>k≤l.length∧∀ j,j<k→klt l[j]! (a,i,0)) (fun k=>[(0,.slice ad l.length c),(1,.int .i64 a),(2,.int .i64 i),(3,.int .i64 u),(9,.int .i64 (k:Int))]) (fun _=>osl cV 3 tHd ad c l::L) (fun k=>l.length - k) 0 ⟨al _,fun j hj=>absurd hj (bI j)⟩ ai (Ent.refl _) ?_
 rintro k ⟨hk,hkl⟩
 have hkk:(k:Int).toNat=k:=av k
 by_cases hgo:k<l.length∧klt l[k]! (a,i,0)
 ·obtain ⟨hk1,hk2⟩:=hgo
  have hk1' : (k:Int).toNat<l.length:=ab
  have hk2' : klt l[(k:Int).toNat]! (a,i,0):=by rw [hkk];exact hk2
  have hnx:∀ j,j<k+1→klt l[j]! (a,i,0):=fun j hj=>by
   rcases bG j k with q|q
   ·exact hkl j q
   ·obtain rfl:j=k:=ab
    exact hk2
  unfold klt at hk2'
  dsimp only at hk2'
  by_cases e1:l[(k:Int).toNat]!.1<a
  ·repeat first|refine aa ?_|intro _|refine dQ ?_
   refine ⟨k+1,⟨ab,hnx⟩,ab,?_,Ent.refl _⟩
   rw [aM k]
   exact ai
  ·have e2:l[(k:Int).toNat]!.1=a:=ab
   have e3:l[(k:Int).toNat]!.2.1<i:=ab
   repeat first|refine aa ?_|intro _|refine dQ ?_
   refine ⟨k+1,⟨ab,hnx⟩,ab,?_,Ent.refl _⟩
   rw [aM k]
   exact ai
 have hpre:∀ x∈l.take k,klt x (a,i,0):=fun x hx=>by
  obtain ⟨j,hj,e⟩:=List.mem_iff_getElem.1 hx
  rw [ba] at hj
  rw [eK] at e
  have:=hkl j ab
  rw [getElem!_of ab,e] at this
  exact this
 refine G.f8 (gG (L:=osl cV 3 tHd ad c l::L) (ad:=ad) (cap:=c) (xs:=l) (enc:=cV) (sz:=3) (E:=tHd)) ?_
 rintro ⟨hcap1,hcap2⟩
 have hdl:l.length - (k:Int).toNat=(l.drop (k:Int).toNat).length:=by rw [cL]
 have htl:(k:Int).toNat=(l.take (k:Int).toNat).length:=by rw [ba];omega
 have hgo2:(k:Int).toNat<l.length↔k<l.length:=by rw [hkk]
 refine G.ent (Ent.d8 cV 3 tHd) ?_
 by_cases hrep:k<l.length∧l[k]!.1=a∧l[k]!.2.1=i
 ·obtain ⟨q0,q1,q2⟩:=hrep
  have q0':=hgo2.2 q0
  have hv:=hI.get q0
  rw [q1,q2] at hv
  have hfin:=AllI.rep hI q0 (n:=f a i+u)
  rw [q1,q2] at hfin
  have q1' : l[(k:Int).toNat]!.1=a:=by rw [hkk];exact q1
  have q2' : l[(k:Int).toNat]!.2.1=i:=by rw [hkk];exact q2
  have hv' : l[(k:Int).toNat]!.2.2=f a i:=by rw [hkk];exact hv
  have hdl2:l.length - ((k:Int)+1).toNat=(l.drop ((k:Int)+1).toNat).length:=by rw [cL]
  have hk1:((k:Int)+1).toNat=k+1:=ab
  repeat first|refine aa ?_|intro _|refine dQ ?_
  refine GO.ef (Ef.e7 (xs:=([]:List Hd)) (ys:=l.take (k:Int).toNat) (hq:=Rds.take inferInstance _) rfl rfl rfl rfl htl (fun e _=>ic e) (by rw [bZ,← htl];omega) (by rw [bZ,← htl];omega)) ac ?_
  rintro _ _ ⟨ad1,cap1,rfl,rfl⟩
  simp only [aj]
  repeat first|refine aa ?_|intro _|refine dQ ?_
  rw [hv',show u+f a i=f a i+u by omega]
  refine GO.ef (Ef.d8 (enc:=cV) (e:=(a,i,f a i+u)) rfl rfl rfl rfl rfl (by rfl) (ic _) (by rw [← htl];omega) (by rw [← htl];omega)) ac ?_
  rintro _ _ ⟨ad2,cap2,rfl,rfl⟩
  repeat first|refine aa ?_|intro _|refine dQ ?_
  refine GO.ef (Ef.e7 (ys:=l.drop ((k:Int)+1).toNat) rfl rfl rfl rfl hdl2 (fun e _=>ic e) (by rw [ax,← htl,← hdl2,aT];omega) (by rw [ax,← htl,← hdl2,aT];omega)) ac ?_
  rintro _ _ ⟨ad3,cap3,rfl,rfl⟩
  repeat first|refine aa ?_|intro _|refine dQ ?_
  refine KX.d7 ag ?_ ⟨ad3,cap3,_,rfl,⟨by rw [hkk,hk1];exact hfin,?_⟩,rfl⟩
  ·exact ae
  ·rw [ax,ax,← htl,← hdl2,aT]
   omega
 have hstop:∀ x∈l.drop k,klt (a,i,0) x:=fun x hx=>by
  have hk0:k<l.length:=by
   rcases bG k l.length with h|h
   ·exact h
   ·rw [aY h] at hx
    exact absurd hx aO
  have h1:klt (a,i,0) l[k]!:=by
   have h2:¬klt l[k]! (a,i,0):=fun q=>hgo ⟨hk0,q⟩
   have h3:¬(l[k]!.1=a∧l[k]!.2.1=i):=fun q=>hrep ⟨hk0,q⟩
   unfold klt at h2 ⊢
   dsimp only at h2 ⊢
   omega
  rw [ew hk0] at hx
  rcases List.mem_cons.1 hx with e|hx
  ·rw [e]
   exact h1
  ·have hs:=hI.srt
   rw [rC hk0] at hs
   obtain ⟨_,s2,_⟩:=List.pairwise_append.1 hs
   exact BV h1 ((List.pairwise_cons.1 s2).1 x hx)
 obtain ⟨hfin,hz⟩:=AllI.ins hI (n:=f a i+u) hpre hstop
 rw [hz] at hfin ⊢
 rw [show (0:Int)+u=u by omega] at hfin ⊢
 have hk1:k<l.length→¬l[(k:Int).toNat]!.1<a∧¬(l[(k:Int).toNat]!.1=a∧l[(k:Int).toNat]!.2.1<i):=fun q=>by
  have h3:¬klt l[k]! (a,i,0):=fun q2=>hgo ⟨q,q2⟩
  rw [hkk]
  unfold klt at h3
  exact ⟨fun q2=>h3 (.inl q2),fun q2=>h3 (.inr q2)⟩
 have hroad:(k<l.length∧¬l[(k:Int).toNat]!.1<a∧(l[(k:Int).toNat]!.1=a∧¬l[(k:Int).toNat]!.2.1<i∧¬l[(k:Int).toNat]!.2.1=i))∨(k<l.length∧¬l[(k:Int).toNat]!.1<a∧¬l[(k:Int).toNat]!.1=a)∨¬k<l.length:=by
  by_cases q:k<l.length
  ·obtain ⟨q1,q2⟩:=hk1 q
   by_cases q3:l[(k:Int).toNat]!.1=a
   ·refine .inl ⟨q,q1,q3,fun q4=>q2 ⟨q3,q4⟩,fun q4=>hrep ⟨q,?_,?_⟩⟩
    ·rw [← hkk];exact q3
    ·rw [← hkk];exact q4
   ·exact .inr (.inl ⟨q,q1,q3⟩)
  ·exact .inr (.inr q)
 rcases hroad with ⟨q0,q1,q2,q3,q4⟩|⟨q0,q1,q2⟩|q0
 all_goals
  try have q0':=hgo2.2 q0
  repeat first|refine aa ?_|intro _|refine dQ ?_
  refine GO.ef (Ef.e7 (xs:=([]:List Hd)) (ys:=l.take (k:Int).toNat) (hq:=Rds.take inferInstance _) rfl rfl rfl rfl htl (fun e _=>ic e) (by rw [bZ,← htl];omega) (by rw [bZ,← htl];omega)) ac ?_
  rintro _ _ ⟨ad1,cap1,rfl,rfl⟩
  simp only [aj]
  repeat first|refine aa ?_|intro _|refine dQ ?_
  refine GO.ef (Ef.d8 (enc:=cV) (e:=(a,i,u)) rfl rfl rfl rfl rfl (by rfl) (ic _) (by rw [← htl];omega) (by rw [← htl];omega)) ac ?_
  rintro _ _ ⟨ad2,cap2,rfl,rfl⟩
  repeat first|refine aa ?_|intro _|refine dQ ?_
  refine GO.ef (Ef.e7 (ys:=l.drop (k:Int).toNat) rfl rfl rfl rfl hdl (fun e _=>ic e) (by rw [ax,← htl,← hdl,aT];omega) (by rw [ax,← htl,← hdl,aT];omega)) ac ?_
  rintro _ _ ⟨ad3,cap3,rfl,rfl⟩
  repeat first|refine aa ?_|intro _|refine dQ ?_
  refine KX.d7 ag ?_ ⟨ad3,cap3,_,rfl,⟨by rw [hkk];exact hfin,?_⟩,rfl⟩
  ·exact ae
  ·rw [ax,ax,← htl,← hdl,aT]
   omega
end
section
open Go.V
attribute [local irreducible] G GO GP GPW GPK Ev Ef EfR Ent CB GB V.Enters
abbrev Ao:List Stp:=[.ev 0,.ev 1,.ev 2,.ev 3,.ev 4,.ev 5,.ev 6,.ev 7,.ev 8,.ev 9,.ev 10,.ev 11,.ef 12]
abbrev An:List Stp:=[.ev 0,.ev 1,.ev 2,.ev 3,.ev 4,.ev 5,.ev 6,.ev 7,.ev 8,.ev 9,.ev 10,.ev 11,.ef 12]
theorem bW {φ ψ:Prop} (k:ψ) (h:Hid ψ→φ:=by intro k;(with_reducible apply G.d8);first|refine G.d7 (N:=100) (id:=15) Ao mixed an (Hid.out k)|refine G.d7 (N:=100) (id:=17) An mixed an (Hid.out k)):φ:=h ⟨k⟩
theorem rU {L:List HP} (items:Int) (ad:Option Addr) (n c:Nat) (ss:List StV) [hr:Rds L ad StV aB 7 ss] (hn:n=ss.length) (hl:ss.length≤1000000) (hm:∀ s∈ss,s.moves.length≤1000000) :
  Tri Tryz.prog 18 #[.int .i64 items,.slice ad n c] (allP aX ss::L) (fun v L'=>∃ ad' cap',v=.tuple #[.slice ad' (resT items ss).2.length cap',.int .i64 (resT items ss).1]∧L' = osl (encZ .i64) 1 tInt ad' cap' (resT items ss).2::allP aX ss::L):=by
 subst hn
 refine Tri.body (args:=[.int .i64 items,.slice ad ss.length c]) 100 en18 Tryz.func18 rfl rfl rfl (by simp) ?_
 by_cases c1:0≤items
 case neg =>
  have e:resT items ss=(1,[]):=if_pos (fun q=>c1 q.1)
  rw [e]
  repeat first|refine aa ?_|intro _|refine bW ?_
  exact KX.d7 ag (Ent.d8 (encZ .i64) 1 tInt) ⟨none,0,rfl,rfl⟩
 by_cases c2:items≤64
 case neg =>
  have e:resT items ss=(1,[]):=if_pos (fun q=>c2 q.2)
  rw [e]
  repeat first|refine aa ?_|intro _|refine bW ?_
  exact KX.d7 ag (Ent.d8 (encZ .i64) 1 tInt) ⟨none,0,rfl,rfl⟩
 have e:resT items ss=if (totF items (cW ss) (List.replicate items.toNat 0)).1=0 then totF items (cW ss) (List.replicate items.toNat 0) else ((totF items (cW ss) (List.replicate items.toNat 0)).1,[]):=if_neg (fun q=>q ⟨c1,c2⟩)
 rw [e]
 have ht0:=tot0 items
 generalize htt:List.replicate items.toNat (0:Int)=t0 at *
 repeat first|refine aa ?_|intro _|refine bW ?_
 refine GO.ef (Ef.makeSlice (encZ .i64) 0 rfl rfl rfl ab ab ab) ac ?_
 rintro _ _ ⟨bt,rfl,rfl⟩
 rw [htt]
 have hl0:=ht0.len
 rw [← hl0]
 repeat first|refine aa ?_|intro _|refine bW ?_
 refine G.loop (α:=Nat×List Int) (fun g=>g.1≤ss.length∧TotI items g.2∧g.2.length=t0.length∧totF items (cW ss) t0=totF items (cW (ss.drop g.1)) g.2) (fun g=>[(0,.int .i64 items),(1,.slice ad ss.length c),(6,.slice (some ⟨bt,0,none⟩) t0.length t0.length),(7,.int .i64 (g.1:Int))]) (fun g=>osl (encZ .i64) 1 tInt (some ⟨bt,0,none⟩) t0.length g.2::allP aX ss::L) (fun g=>ss.length - g.1) (0,t0) ⟨al _,ht0,rfl,rfl⟩ ai (Ent.refl _) ?_
 rintro ⟨i,t⟩ ⟨hi,hti,htl,het⟩
 dsimp only at hi hti htl het ⊢
 by_cases hlt:i<ss.length
 case neg =>
  have e0:ss.drop i=[]:=aY ab
  rw [e0] at het
  have e1:totF items (cW ss) t0=(0,t):=het
  rw [e1,if_pos rfl]
  repeat first|refine aa ?_|intro _|refine bW ?_
  exact KX.d7 ag (Ent.refl _) ⟨some ⟨bt,0,none⟩,t0.length,by rw [htl];rfl,rfl⟩
 have hii:(i:Int).toNat=i:=av i
 have hlt' : (i:Int).toNat<ss.length:=ab
 have hml:=hm _ (aG hlt)
 rw [ew hlt,lh] at het
 repeat first|refine aa ?_|intro _|refine bW ?_
 refine G.loop (α:=Nat×List Int) (fun g=>g.1≤ss[i]!.moves.length∧TotI items g.2∧g.2.length=t0.length∧totF items (cW ss) t0=totF items ((ss[i]!.moves.drop g.1).map MvV.m++cW (ss.drop (i+1))) g.2) (fun g=>[(0,.int .i64 items),(1,.slice ad ss.length c),(6,.slice (some ⟨bt,0,none⟩) t0.length t0.length),(7,.int .i64 (i:Int)),(8,.int .i64 (g.1:Int))]) (fun g=>osl (encZ .i64) 1 tInt (some ⟨bt,0,none⟩) t0.length g.2::isl aF 5 ss[i]!.mad ss[i]!.moves::stP ss[i]!::allP aX ss::L) (fun g=>ss[i]!.moves.length - g.1) (0,t) ⟨al _,hti,htl,het⟩ ai ((Ent.at (A:=allP aX ss) (lO hlt)).trans ae) ?_
 clear hti htl het
 rintro ⟨j,t⟩ ⟨hj,hti,htl,het⟩
 dsimp only at hj hti htl het ⊢
 by_cases hlj:j<ss[i]!.moves.length
 case neg =>
  have e0:ss[i]!.moves.drop j=[]:=aY ab
  rw [e0] at het
  have hjj:j=ss[i]!.moves.length:=ab
  repeat first|refine aa ?_|intro _|refine bW ?_
  rw [hii]
  repeat first|refine aa ?_|intro _|refine bW ?_
  refine ⟨(i+1,t),⟨by dsimp only;omega,hti,htl,het⟩,by dsimp only;omega,?_,by exact ae⟩
  dsimp only
  rw [aM i]
  exact ai
 have hjj:(j:Int).toNat=j:=av j
 have hlj' : (j:Int).toNat<ss[i]!.moves.length:=ab
 rw [nl hlj,sA] at het
 repeat first|refine aa ?_|intro _|refine bW ?_
 rw [hii]
 repeat first|refine aa ?_|intro _|refine bW ?_
 rw [hii]
 repeat first|refine aa ?_|intro _|refine bW ?_
 rw [hjj]
 rename_i b9
 rw [show aF ss[i]!.moves[j]! = aF ss[i]!.moves[j]! from rfl]
 generalize ss[i]!.moves[j]! = m at *
 refine GO.ef (Ef.d7 (qC items m) rfl) ac ?_
 rintro _ _ ⟨rfl,rfl⟩
 by_cases hmo:io items m.m
 case neg =>
  have es:iT items t m.m=(1,t):=if_pos hmo
  rw [es,if_neg (show ¬(1:Int)=0 by decide)] at het
  rw [aL hmo,het,if_neg (show ¬(1:Int)=0 by decide)]
  repeat first|refine aa ?_|intro _|refine bW ?_
  exact KX.d7 ag (Ent.trans ae (Ent.d8 (encZ .i64) 1 tInt)) ⟨none,0,rfl,rfl⟩
 have es:iT items t m.m=if (chgT (t[m.m.item.toNat]! + byT m.m)).2=0 then (0,t.set m.m.item.toNat (chgT (t[m.m.item.toNat]! + byT m.m)).1) else ((chgT (t[m.m.item.toNat]! + byT m.m)).2,t):=if_neg (fun q=>q hmo)
 rw [aC (fun q=>q hmo)]
 obtain ⟨⟨k1,k2⟩,⟨k3,k4⟩,k5,k6⟩:=hmo
 have hti2:=hti.len
 have hin:m.m.item.toNat<t.length:=ab
 obtain ⟨w1,w2⟩:=hti.bd _ hin
 obtain ⟨⟨frm,to,item,mn,parts⟩,pad,pcap⟩:=m
 dsimp only at k1 k2 k3 k4 k5 k6 hin w1 w2 es het ⊢
 simp only [aF]
 repeat first|((fail_if_success (with_reducible refine G.e7 14 ?_));(with_reducible apply G.seq))|refine bU ?_|intro _|refine bW ?_
 refine G.d9 (α:=Unit) (fun _=>True) (fun _=>[(0,.int .i64 items),(1,.slice ad ss.length c),(6,.slice (some ⟨bt,0,none⟩) t0.length t0.length),(7,.int .i64 (i:Int)),(8,.int .i64 (j:Int)),(9,.pointer (some ⟨b9,0,none⟩))]) (fun _=>obj b9 tMv [.int .i64 frm,.int .i64 to,.int .i64 item,.int .i64 mn,.slice pad parts.length pcap]::osl (encZ .i64) 1 tInt (some ⟨bt,0,none⟩) t0.length (t.set item.toNat (t[item.toNat]! + (if frm=0∧to≠0 then mn else 0)))::isl aF 5 ss[i]!.mad ss[i]!.moves::stP ss[i]!::allP aX ss::L) ?_ ?_
 ·by_cases c3:frm=0
  ·by_cases c4:to=0
   ·rw [if_neg (fun q=>q.2 c4),show t[item.toNat]! + 0=t[item.toNat]! by omega,pX hin]
    repeat first|refine aa ?_|intro _|refine bW ?_
    exact ⟨(),trivial,ai,by exact ae⟩
   ·rw [if_pos ⟨c3,c4⟩]
    repeat first|refine aa ?_|intro _|refine bW ?_
    exact ⟨(),trivial,ai,by exact ae⟩
  ·rw [if_neg (fun q=>c3 q.1),show t[item.toNat]! + 0=t[item.toNat]! by omega,pX hin]
   repeat first|refine aa ?_|intro _|refine bW ?_
   exact ⟨(),trivial,ai,by exact ae⟩
 rintro _ _
 refine G.d9 (α:=Unit) (fun _=>True) (fun _=>[(0,.int .i64 items),(1,.slice ad ss.length c),(6,.slice (some ⟨bt,0,none⟩) t0.length t0.length),(7,.int .i64 (i:Int)),(8,.int .i64 (j:Int)),(9,.pointer (some ⟨b9,0,none⟩))]) (fun _=>obj b9 tMv [.int .i64 frm,.int .i64 to,.int .i64 item,.int .i64 mn,.slice pad parts.length pcap]::osl (encZ .i64) 1 tInt (some ⟨bt,0,none⟩) t0.length (t.set item.toNat (t[item.toNat]! + byT ⟨frm,to,item,mn,parts⟩))::isl aF 5 ss[i]!.mad ss[i]!.moves::stP ss[i]!::allP aX ss::L) ?_ ?_
 ·have he:byT ⟨frm,to,item,mn,parts⟩=(if frm=0 then mn else 0) - (if to=0 then mn else 0):=rfl
  rw [he]
  clear he es het
  have hset:∀ x:Int,(t.set item.toNat x).length=t.length:=fun x=>bg
  have hget:∀ x:Int,(t.set item.toNat x)[item.toNat]! = x:=fun x=>by
   rw [getElem!_of (by rw [hset];exact hin),eG]
  by_cases c3:frm=0
  ·rw [if_pos c3]
   by_cases c4:to=0
   ·rw [if_pos c4,if_neg (fun q=>q.2 c4),show mn - mn=0 by omega]
    repeat first|refine aa ?_|intro _|refine bW ?_
    exact ⟨(),trivial,ai,by exact ae⟩
   ·rw [if_neg c4,if_pos ⟨c3,c4⟩,show mn - 0=mn by omega]
    repeat first|refine aa ?_|intro _|refine bW ?_
    exact ⟨(),trivial,ai,by exact ae⟩
  ·rw [if_neg c3,if_neg (fun q=>c3 q.1)]
   by_cases c4:to=0
   ·rw [if_pos c4,show t[item.toNat]! + 0=t[item.toNat]! by omega,pX hin,show t[item.toNat]! + (0 - mn)=t[item.toNat]! - mn by omega]
    repeat first|refine aa ?_|intro _|refine bW ?_
    exact ⟨(),trivial,ai,by exact ae⟩
   ·rw [if_neg c4,show (0:Int) - 0=0 by omega]
    repeat first|refine aa ?_|intro _|refine bW ?_
    exact ⟨(),trivial,ai,by exact ae⟩
 rintro _ _
 have hb : -1099511627776≤byT ⟨frm,to,item,mn,parts⟩∧byT ⟨frm,to,item,mn,parts⟩≤1099511627776:=by
  unfold byT
  dsimp only
  split<;>split<;>omega
 generalize byT ⟨frm,to,item,mn,parts⟩=x at *
 have hset:(t.set item.toNat (t[item.toNat]! + x)).length=t.length:=bg
 have hget:(t.set item.toNat (t[item.toNat]! + x))[item.toNat]! = t[item.toNat]! + x:=by
  rw [getElem!_of (by rw [hset];exact hin),eG]
 by_cases d1:t[item.toNat]! + x<0
 case pos =>
  have hc:chgT (t[item.toNat]! + x)=(0,10):=if_pos d1
  rw [hc,if_neg (show ¬(10:Int)=0 by decide)] at es
  rw [es,if_neg (show ¬(10:Int)=0 by decide)] at het
  rw [het,if_neg (show ¬(10:Int)=0 by decide)]
  generalize htx:t.set item.toNat (t[item.toNat]! + x)=tx at *
  repeat first|refine aa ?_|intro _|refine bW ?_
  exact KX.d7 ag (Ent.trans ae (Ent.d8 (encZ .i64) 1 tInt)) ⟨none,0,rfl,rfl⟩
 by_cases d2:1099511627776<t[item.toNat]! + x
 case pos =>
  have hc:chgT (t[item.toNat]! + x)=(0,4):=by unfold chgT;rw [if_neg d1,if_pos d2]
  rw [hc,if_neg (show ¬(4:Int)=0 by decide)] at es
  rw [es,if_neg (show ¬(4:Int)=0 by decide)] at het
  rw [het,if_neg (show ¬(4:Int)=0 by decide)]
  generalize htx:t.set item.toNat (t[item.toNat]! + x)=tx at *
  repeat first|refine aa ?_|intro _|refine bW ?_
  exact KX.d7 ag (Ent.trans ae (Ent.d8 (encZ .i64) 1 tInt)) ⟨none,0,rfl,rfl⟩
 have hc:chgT (t[item.toNat]! + x)=(t[item.toNat]! + x,0):=by unfold chgT;rw [if_neg d1,if_neg d2]
 have hti':=TotI.set hti (k:=item.toNat) (s:=t[item.toNat]! + x) (by rw [hc])
 rw [hc] at hti'
 rw [hc,if_pos rfl] at es
 rw [es,if_pos rfl] at het
 have htl' : (t.set item.toNat (t[item.toNat]! + x)).length=t0.length:=by rw [hset];exact htl
 generalize htx:t.set item.toNat (t[item.toNat]! + x)=tx at *
 repeat first|refine aa ?_|intro _|refine bW ?_
 refine ⟨(j+1,tx),⟨by dsimp only;omega,hti',htl',het⟩,by dsimp only;omega,?_,by exact ae⟩
 dsimp only
 rw [aM j]
 exact ai
end
end Go.Proofs.YtommnllbflbdmaaGreatDoor
