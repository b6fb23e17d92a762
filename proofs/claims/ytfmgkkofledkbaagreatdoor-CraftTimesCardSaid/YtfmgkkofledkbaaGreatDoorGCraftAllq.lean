/- Lemmas and contracts of functions, in the order: B1, B2, Z18, E2, Z19, Z20, Z21, Z22. -/
import Derived.Test.YtfmgkkofledkbaaGreatDoorGCraftAllj
import Derived.Test.YtfmgkkofledkbaaGreatDoorGCraftAlll
import Derived.Test.YtfmgkkofledkbaaGreatDoorGCraftAllg
import Derived.Test.YtfmgkkofledkbaaGreatDoorGCraftAllp
set_option linter.all false
set_option maxHeartbeats 8000000
namespace Go.Proofs.YtfmgkkofledkbaaGreatDoor
open Go.V
def dueP (js:List JobM) (tick:Int) (k:Nat):Prop:=js[k]!.done=false∧js[k]!.fin≤tick
instance (a b c):Decidable (dueP a b c):=by unfold dueP;infer_instance
def dE (js:List JobM) (tick:Int):Nat→Int
 | 0=>-1
 | i+1=>if dueP js tick i∧(dE js tick i<0∨js[i]!.fin<js[(max (dE js tick i) 0).toNat]!.fin) then (i:Int) else dE js tick i
def ahead (js:List JobM) (a b:Nat):Prop:=js[a]!.fin<js[b]!.fin∨(js[a]!.fin=js[b]!.fin∧a<b)
instance (a b c):Decidable (ahead a b c):=by unfold ahead;infer_instance
theorem jB (js:List JobM) (tick:Int):∀ i,(dE js tick i = -1∧∀ k,k<i→¬dueP js tick k)∨(∃ b:Nat,dE js tick i=(b:Int)∧b<i∧dueP js tick b∧∀ k,k<i→dueP js tick k→k≠b→ahead js b k)
 | 0=>.inl ⟨rfl,fun k hk=>by omega⟩
 | i+1=>by
  have ih:=jB js tick i
  have e:dE js tick (i+1)=if dueP js tick i∧(dE js tick i<0∨js[i]!.fin<js[(max (dE js tick i) 0).toNat]!.fin) then (i:Int) else dE js tick i:=rfl
  rw [e]
  rcases ih with ⟨h1,h2⟩|⟨b,h1,h2,h3,h4⟩
  ·rw [h1]
   by_cases hd:dueP js tick i
   ·rw [if_pos ⟨hd,.inl ab⟩]
    refine .inr ⟨i,rfl,ab,hd,fun k hk hdk hne=>?_⟩
    exact absurd hdk (h2 k ab)
   ·rw [if_neg (fun q=>hd q.1)]
    refine .inl ⟨rfl,fun k hk=>?_⟩
    by_cases hki:k=i
    ·rw [hki];exact hd
    ·exact h2 k ab
  ·have hb:(max ((b:Nat):Int) 0).toNat=b:=ab
   rw [h1,hb]
   by_cases hd:dueP js tick i∧(((b:Nat):Int)<0∨js[i]!.fin<js[b]!.fin)
   ·rw [if_pos hd]
    have hlt:js[i]!.fin<js[b]!.fin:=by
     rcases hd.2 with h|h
     ·omega
     ·exact h
    refine .inr ⟨i,rfl,ab,hd.1,fun k hk hdk hne=>?_⟩
    by_cases hkb:k=b
    ·rw [hkb];exact .inl hlt
    ·have h5:=h4 k ab hdk hkb
     unfold ahead at h5 ⊢
     omega
   ·rw [if_neg hd]
    refine .inr ⟨b,rfl,ab,h3,fun k hk hdk hne=>?_⟩
    by_cases hki:k=i
    ·have h6:¬js[i]!.fin<js[b]!.fin:=fun q=>hd ⟨hki▸hdk,.inr q⟩
     rw [hki]
     unfold ahead
     omega
    ·exact h4 k ab hdk hne
structure IsDue (js:List JobM) (tick:Int) (ids:List Nat):Prop where
 srt:ids.Pairwise (ahead js)
 mem:∀ k,k∈ids↔k<js.length∧dueP js tick k
theorem IsDue.none {js:List JobM} {tick:Int} (h:IsDue js tick []):dE js tick js.length = -1:=by
 rcases jB js tick js.length with ⟨h1,_⟩|⟨b,h1,h2,h3,h4⟩
 ·exact h1
 ·exact absurd ((h.mem b).2 ⟨h2,h3⟩) (by simp)
theorem IsDue.head {js:List JobM} {tick:Int} {k:Nat} {r:List Nat} (h:IsDue js tick (k::r)):dE js tick js.length=(k:Int)∧k<js.length∧dueP js tick k:=by
 obtain ⟨hk1,hk2⟩:=(h.mem k).1 List.mem_cons_self
 refine ⟨?_,hk1,hk2⟩
 rcases jB js tick js.length with ⟨h1,h2⟩|⟨b,h1,h2,h3,h4⟩
 ·exact absurd hk2 (h2 k hk1)
 ·by_cases hkb:k=b
  ·rw [hkb];exact h1
  ·have h5:=h4 k hk1 hk2 hkb
   have h6:b∈r:=by
    rcases List.mem_cons.1 ((h.mem b).2 ⟨h2,h3⟩) with h7|h7
    ·exact absurd h7.symm hkb
    ·exact h7
   have h8:=(List.pairwise_cons.1 h.srt).1 b h6
   unfold ahead at h5 h8
   omega
theorem oo {js:List JobM} {k i:Nat} {j:JobM} (hk:k<js.length) (hj:j.fin=js[k]!.fin):(js.set k j)[i]!.fin=js[i]!.fin:=by
 by_cases hi:i<js.length
 ·rw [dj hi]
  by_cases e:i=k
  ·rw [if_pos e,e];exact hj
  ·rw [if_neg e]
 ·rw [List.getElem!_eq_getElem?_getD,List.getElem!_eq_getElem?_getD,List.getElem?_eq_none (by rw [List.length_set];omega),List.getElem?_eq_none ab]
theorem IsDue.tail {js:List JobM} {tick:Int} {k:Nat} {r:List Nat} (h:IsDue js tick (k::r)) {j:JobM} (hf:j.fin=js[k]!.fin) (hd:j.done=true):IsDue (js.set k j) tick r:=by
 obtain ⟨_,hk1,hk2⟩:=h.head
 obtain ⟨hs1,hs2⟩:=List.pairwise_cons.1 h.srt
 refine ⟨hs2.imp (fun {a b} hab=>?_),fun i=>?_⟩
 ·unfold ahead at hab ⊢
  rw [oo hk1 hf,oo hk1 hf]
  exact hab
 ·rw [List.length_set]
  by_cases hik:i=k
  ·constructor
   ·intro hi
    have h9:=hs1 i hi
    unfold ahead at h9
    rw [hik] at h9
    omega
   ·rintro ⟨_,h9,_⟩
    rw [hik,dj hk1,if_pos rfl,hd] at h9
    cases h9
  ·have hm:=h.mem i
   rw [List.mem_cons] at hm
   constructor
   ·intro hi
    obtain ⟨h1,h2,h3⟩:=hm.1 (.inr hi)
    refine ⟨h1,?_,?_⟩
    ·rw [dj h1,if_neg hik];exact h2
    ·rw [oo hk1 hf];exact h3
   ·rintro ⟨h1,h2,h3⟩
    rw [dj h1,if_neg hik] at h2
    rw [oo hk1 hf] at h3
    rcases hm.2 ⟨h1,h2,h3⟩ with h4|h4
    ·exact absurd h4 hik
    ·exact h4
theorem IsDue.unique {tick:Int}:∀ {a b:List Nat} {js:List JobM},IsDue js tick a→IsDue js tick b→a=b
 | [],[],_,_,_=>rfl
 | [],k::r,_,h1,h2=>absurd ((h1.mem k).2 ((h2.mem k).1 List.mem_cons_self)) (by simp)
 | k::r,[],_,h1,h2=>absurd ((h2.mem k).2 ((h1.mem k).1 List.mem_cons_self)) (by simp)
 | k::r,k'::r',js,h1,h2=>by
  have e:=h1.head.1.symm.trans h2.head.1
  obtain rfl:k=k':=ab
  rw [IsDue.unique (h1.tail (j:=finJ js[k]!) rfl rfl) (h2.tail (j:=finJ js[k]!) rfl rfl)]
theorem eR (js:List JobM) (tick:Int):∃ ids,IsDue js tick ids:=by
 have ht:∀ a b c:Nat,decide (ahead js a b∨a=b)=true→decide (ahead js b c∨b=c)=true→decide (ahead js a c∨a=c)=true:=by
  intro a b c h1 h2
  rcases of_decide_eq_true h1 with h1|rfl
  ·rcases of_decide_eq_true h2 with h2|rfl
   ·refine decide_eq_true (.inl ?_)
    unfold ahead at *
    omega
   ·exact decide_eq_true (.inl h1)
  ·exact h2
 have hto:∀ a b:Nat,(decide (ahead js a b∨a=b) || decide (ahead js b a∨b=a))=true:=by
  intro a b
  simp only [Bool.or_eq_true,decide_eq_true_eq]
  unfold ahead
  omega
 have hp:=List.pairwise_mergeSort (le:=fun a b:Nat=>decide (ahead js a b∨a=b)) ht hto ((List.range js.length).filter (fun k=>decide (dueP js tick k)))
 have hq:=List.mergeSort_perm ((List.range js.length).filter (fun k=>decide (dueP js tick k))) (fun a b:Nat=>decide (ahead js a b∨a=b))
 have hn:(((List.range js.length).filter (fun k=>decide (dueP js tick k))).mergeSort (fun a b:Nat=>decide (ahead js a b∨a=b))).Nodup:=hq.nodup_iff.2 (List.Pairwise.filter _ List.nodup_range)
 refine ⟨((List.range js.length).filter (fun k=>decide (dueP js tick k))).mergeSort (fun a b:Nat=>decide (ahead js a b∨a=b)),?_,fun k=>?_⟩
 ·exact ((List.pairwise_and_iff.2 ⟨hp,hn⟩).imp (fun {a b} h=>by
   have h1:=of_decide_eq_true h.1
   rcases h1 with h1|h1
   ·exact h1
   ·exact absurd h1 h.2))
 ·rw [hq.mem_iff,List.mem_filter,List.mem_range,decide_eq_true_eq]
noncomputable def dueL (js:List JobM) (tick:Int):List Nat:=(eR js tick).choose
theorem Ft (js:List JobM) (tick:Int):IsDue js tick (dueL js tick):=(eR js tick).choose_spec
theorem Fu {js:List JobM} {tick:Int} {ids:List Nat} (h:IsDue js tick ids):dueL js tick=ids:=(Ft js tick).unique h
theorem IsDue.nodup {js:List JobM} {tick:Int} {ids:List Nat} (h:IsDue js tick ids):ids.Nodup:=h.srt.imp (fun {a b} hab e=>by
 subst e
 unfold ahead at hab
 omega)
theorem IsDue.len {js:List JobM} {tick:Int} {ids:List Nat} (h:IsDue js tick ids):ids.length≤js.length:=by
 exact iF h.nodup (fun k hk=>((h.mem k).1 hk).1)
abbrev craftBA:ByteArray:={ data:=#[99,114,97,102,116,32] }
attribute [local irreducible] bS bU
def vJ (seed:List Int) (n:Int):Nat:=bS (aD (craftBA++decS n.toNat)) seed
def cB (key:Nat) (num den:Int):Nat→Nat×Int
 | 0=>(0,0)
 | k+1=>((hitD key num den (cB key num den k).1).2.2,if (hitD key num den (cB key num den k).1).1=true then (cB key num den k).2+1 else (cB key num den k).2)
theorem Dr {key n a:Nat} (hn:0<n):a≤(bU key n a).2.2∧(bU key n a).2.2≤a+128:=by
 have h:=mg (label:=jt) (key:=key) hn 128 a
 unfold bU
 exact ⟨h.2.2.1,h.2.2.2.1⟩
theorem Fi {key:Nat} {num den:Int} {a:Nat} (h:1≤num∧num≤den) {r:Int×Int×Nat} (hr:bU key den.toNat a=r):hitD key num den a=(decide (r.2.1=0∧r.1<num),r.2.1,r.2.2):=by
 rw [← hr]
 unfold hitD
 rw [if_pos ⟨ab,ab,h.2⟩]
theorem rQ {key:Nat} {num den:Int} {a:Nat} (h:1≤num∧num≤den) {p:Bool×Int×Nat} (hp:hitD key num den a=p):a≤p.2.2∧p.2.2≤a+128∧(p.1=true→p.2.1=0):=by
 have h2:=Dr (key:=key) (n:=den.toNat) (a:=a) ab
 obtain ⟨r,hr⟩:∃ r,bU key den.toNat a=r:=⟨_,rfl⟩
 rw [Fi h hr] at hp
 rw [hr] at h2
 subst hp
 exact ⟨h2.1,h2.2,fun q=>(of_decide_eq_true q).1⟩
attribute [local irreducible] hitD
theorem jN {key:Nat} {num den:Int} (h:1≤num∧num≤den):∀ k,(cB key num den k).1≤128*k∧0≤(cB key num den k).2∧(cB key num den k).2≤k
 | 0=>⟨Nat.le_refl _,Int.le_refl _,Int.le_refl _⟩
 | k+1=>by
  obtain ⟨h1,h2,h3⟩:=jN (key:=key) h k
  unfold cB
  obtain ⟨p,hp⟩:∃ p,hitD key num den (cB key num den k).1=p:=⟨_,rfl⟩
  obtain ⟨h4,h5,_⟩:=rQ h hp
  rw [hp]
  dsimp only
  refine ⟨ab,?_,?_⟩<;>split<;>omega
def da (seed:List Int) (id times num den:Int):Int:=(cB (vJ seed id) num den times.toNat).2
theorem lU {seed:List Int} {id times num den:Int} (h:1≤num∧num≤den) (ht:0≤times):0≤da seed id times num den∧da seed id times num den≤times:=by
 have:=(jN (key:=vJ seed id) h times.toNat).2
 unfold da
 omega
def gn (acc hold:Int) (take give:List (Int×Int)) (times rule tick:Int):StM:=cw 4 acc tick rule times (take.map (mkMv times hold 0)++give.map (mkMv times 0 acc))
noncomputable def dH (S:LedM) (j:JobM) (times:Int) (take give:List (Int×Int)) (rule tick:Int):Int×LedM :=
 (if (tryM S (gn j.acc j.hold take give times rule tick)).1=0 then times else 0,aI S (gn j.acc j.hold take give times rule tick))
noncomputable def endJ (S:LedM) (seed:List Int) (j:JobM) (tick:Int):LedM×JobM :=
 let r:=S.cat.rules[j.rule.toNat]!
 let won:=da seed j.id j.times r.chance r.of_
 let p:=dH S j won r.take r.give j.rule tick
 let q:=dH p.2 j (j.times - won) r.take r.back (-2 - j.rule) tick
 (gbM j.acc tick j.hold q.2 S.cat.items.length,{ j with done:=true,won:=p.1,lost:=q.1 })
noncomputable def endM (tick:Int) (p:LedM×YardM) (k:Nat):LedM×YardM :=
 ((endJ p.1 p.2.seed p.2.jobs[k]! tick).1,{ p.2 with jobs:=p.2.jobs.set k (endJ p.1 p.2.seed p.2.jobs[k]! tick).2 })
noncomputable def advM (S:LedM) (Y:YardM) (tick:Int):List Int×LedM×YardM :=
 if ¬aV Y.tick S.now tick then ([],S,Y)
 else ((dueL Y.jobs tick).map (fun k:Nat=>(k:Int)),(dueL Y.jobs tick).foldl (endM tick) (S,{ Y with tick:=tick }))
theorem ej (S:LedM) (s:StM):(aI S s).cat=S.cat:=by
 unfold aI;split<;>rfl
theorem py {S:LedM} (h:S.Ok) (j:JobM) (times:Int) (take give:List (Int×Int)) (rule tick:Int):(dH S j times take give rule tick).2.Ok∧(dH S j times take give rule tick).2.cat=S.cat∧((dH S j times take give rule tick).1=times∨(dH S j times take give rule tick).1=0):=by
 unfold dH
 refine ⟨fj h dF,ej _ _,?_⟩
 dsimp only
 split
 ·exact .inl rfl
 ·exact .inr rfl
theorem yN {S:LedM} (h:S.Ok) (seed:List Int) (j:JobM) (tick:Int):(endJ S seed j tick).1.Ok∧(endJ S seed j tick).1.cat=S.cat:=by
 unfold endJ
 dsimp only
 obtain ⟨h1,h2,_⟩:=py h j (da seed j.id j.times S.cat.rules[j.rule.toNat]!.chance S.cat.rules[j.rule.toNat]!.of_) S.cat.rules[j.rule.toNat]!.take S.cat.rules[j.rule.toNat]!.give j.rule tick
 obtain ⟨h3,h4,_⟩:=py h1 j (j.times - da seed j.id j.times S.cat.rules[j.rule.toNat]!.chance S.cat.rules[j.rule.toNat]!.of_) S.cat.rules[j.rule.toNat]!.take S.cat.rules[j.rule.toNat]!.back (-2 - j.rule) tick
 obtain ⟨h5,h6⟩:=lH (acc:=j.acc) (tick:=tick) (hold:=j.hold) h3 S.cat.items.length
 exact ⟨h5,h6.trans (h4.trans h2)⟩
end Go.Proofs.YtfmgkkofledkbaaGreatDoor
namespace Go.Proofs.YtfmgkkofledkbaaGreatDoor
open Go.V
attribute [local irreducible] da tryM aI gbM dH
structure SameJ (j j' : JobM):Prop where
 id:j'.id=j.id
 acc:j'.acc=j.acc
 hold:j'.hold=j.hold
 rule:j'.rule=j.rule
 times:j'.times=j.times
 beg:j'.beg=j.beg
 fin:j'.fin=j.fin
theorem YardM.Ok.set {Y:YardM} (h:Y.Ok) {k:Nat} (hk:k<Y.jobs.length) {j' : JobM} (hj:SameJ Y.jobs[k]! j'):YardM.Ok { Y with jobs:=Y.jobs.set k j' }:=by
 have hg:∀ i,i<Y.jobs.length→SameJ Y.jobs[i]! (Y.jobs.set k j')[i]!:=by
  intro i hi
  rw [dj hi]
  by_cases e:i=k
  ·rw [if_pos e,e];exact hj
  ·rw [if_neg e];exact ⟨rfl,rfl,rfl,rfl,rfl,rfl,rfl⟩
 refine ⟨h.seed,?_,h.loots,h.tick,?_,?_⟩
 ·show (Y.jobs.set k j').length≤60
  rw [List.length_set]
  exact h.len
 ·intro i hi
  have hi' : i<Y.jobs.length:=by rw [← List.length_set];exact hi
  show (Y.jobs.set k j')[i]!.id=i∧(Y.jobs.set k j')[i]!.hold=536870912+i
  rw [(hg i hi').id,(hg i hi').hold]
  exact h.id i hi'
 ·intro i hi
  have hi' : i<Y.jobs.length:=by rw [← List.length_set];exact hi
  show aM (Y.jobs.set k j')[i]!.acc∧cn (Y.jobs.set k j')[i]!.times∧(0≤(Y.jobs.set k j')[i]!.beg∧(Y.jobs.set k j')[i]!.beg≤(Y.jobs.set k j')[i]!.fin∧(Y.jobs.set k j')[i]!.fin≤1099511627776+1000000*(i+1))∧I64 (Y.jobs.set k j')[i]!.rule
  rw [(hg i hi').acc,(hg i hi').times,(hg i hi').beg,(hg i hi').fin,(hg i hi').rule]
  exact h.num i hi'
def RulesJ (S:LedM) (js:List JobM):Prop:=∀ k,k<js.length→dG S.cat.rules js[k]!.rule false
theorem RulesJ.set {S:LedM} {js:List JobM} (h:RulesJ S js) {k:Nat} {j' : JobM} (hj:j'.rule=js[k]!.rule):RulesJ S (js.set k j'):=by
 intro i hi
 have hi' : i<js.length:=by rw [← List.length_set];exact hi
 rw [dj hi']
 by_cases e:i=k
 ·rw [if_pos e,hj]
  exact h k (e▸hi')
 ·rw [if_neg e]
  exact h i hi'
theorem jO (S:LedM) (seed:List Int) (j:JobM) (tick:Int):SameJ j (endJ S seed j tick).2∧(endJ S seed j tick).2.done=true:=⟨⟨rfl,rfl,rfl,rfl,rfl,rfl,rfl⟩,rfl⟩
structure AdvI (S0:LedM) (Y0:YardM) (tick:Int) (rest:List Nat) (p:LedM×YardM):Prop where
 ok:p.1.Ok
 cat:p.1.cat=S0.cat
 yok:p.2.Ok
 len:p.2.jobs.length=Y0.jobs.length
 seed:p.2.seed=Y0.seed
 tck:p.2.tick=Y0.tick
 loots:p.2.loots=Y0.loots
 rul:RulesJ S0 p.2.jobs
 due:IsDue p.2.jobs tick rest
theorem AdvI.step {S0:LedM} {Y0:YardM} {tick:Int} {k:Nat} {rest:List Nat} {p:LedM×YardM} (h:AdvI S0 Y0 tick (k::rest) p):AdvI S0 Y0 tick rest (endM tick p k):=by
 obtain ⟨_,hk,_⟩:=h.due.head
 obtain ⟨h1,h2⟩:=yN h.ok p.2.seed p.2.jobs[k]! tick
 obtain ⟨h3,h4⟩:=jO p.1 p.2.seed p.2.jobs[k]! tick
 refine ⟨h1,h2.trans h.cat,h.yok.set hk h3,?_,h.seed,h.tck,h.loots,h.rul.set h3.rule,h.due.tail h3.fin h4⟩
 show (p.2.jobs.set k _).length=_
 rw [List.length_set]
 exact h.len
theorem AdvI.a6 {S0:LedM} {Y0:YardM} {tick:Int}:∀ (ids rest:List Nat) (p:LedM×YardM),AdvI S0 Y0 tick (ids++rest) p→AdvI S0 Y0 tick rest (ids.foldl (endM tick) p)
 | [],_,_,h=>h
 | k::ids,rest,p,h=>AdvI.a6 ids rest (endM tick p k) h.step
noncomputable def advS (S:LedM) (Y:YardM) (tick:Int) (ids:List Nat) (g:Nat):LedM×YardM:=(ids.take g).foldl (endM tick) (S,{ Y with tick:=tick })
theorem lf (S:LedM) (Y:YardM) (tick:Int) (ids:List Nat):advS S Y tick ids 0=(S,{ Y with tick:=tick }):=rfl
theorem ol {S:LedM} {Y:YardM} {tick:Int} {ids:List Nat} {g:Nat} (h:g<ids.length):advS S Y tick ids (g+1)=endM tick (advS S Y tick ids g) ids[g]!:=by
 unfold advS
 rw [List.take_succ_eq_append_getElem h,List.foldl_append,getElem!_of h]
 rfl
theorem jq (S:LedM) (Y:YardM) (tick:Int) (ids:List Nat):advS S Y tick ids ids.length=ids.foldl (endM tick) (S,{ Y with tick:=tick }):=by
 unfold advS
 rw [List.take_length]
theorem iy {S:LedM} {Y:YardM} {tick:Int} (hS:S.Ok) (hY:Y.Ok) (hR:RulesJ S Y.jobs) (ht:0≤tick∧tick≤1099511627776) {ids:List Nat} (hd:IsDue Y.jobs tick ids) (g:Nat):AdvI S { Y with tick:=tick } tick (ids.drop g) (advS S Y tick ids g):=by
 unfold advS
 refine AdvI.a6 (ids.take g) (ids.drop g) _ ?_
 rw [List.take_append_drop]
 exact ⟨hS,rfl,hY.at_tick ht,rfl,rfl,rfl,rfl,hR,hd⟩
theorem ga {S:LedM} {Y:YardM} {tick:Int} (h:aV Y.tick S.now tick) {ids:List Nat} (hd:IsDue Y.jobs tick ids):advM S Y tick=(ids.map (fun k:Nat=>(k:Int)),advS S Y tick ids ids.length):=by
 unfold advM
 rw [if_neg (fun q=>q h),Fu hd,jq]
theorem eA {S:LedM} {Y:YardM} {tick:Int} (h:¬aV Y.tick S.now tick):advM S Y tick=([],S,Y):=if_pos h
end Go.Proofs.YtfmgkkofledkbaaGreatDoor
namespace Go.Proofs.YtfmgkkofledkbaaGreatDoor
open Go.V
attribute [local irreducible] G GO GP GPW GPK Ev Ef EfR Ent CB GB V.Enters
section
theorem zo {L:List HP} (ad:Option Addr) (c:Nat) (seed:List Int) (label:ByteArray) (at_:Nat) [hrd:Rds L ad Int (encZ .u8) 1 seed] (hb:dy seed) (hl:seed.length≤100000000) (hls:label.size≤1000000) (ha:at_<4611686018427387904) :
  Tri Tryz.prog 262 #[.slice ad seed.length c,.string label,.int .i64 (at_:Int)] L (fun v L'=>v=.int .u64 (dw (bS (aD label) seed) at_:Int)∧L' = L):=by
 have hk:=ld (aD label) seed
 refine Tri.body (args:=[.slice ad seed.length c,.string label,.int .i64 (at_:Int)]) 14 Hg Tryz.func262 rfl rfl rfl (by simp) ?_
 repeat first|refine aa ?_|intro _
 refine GO.ef (Ef.a6 (DP label ad seed.length c seed hb rfl hls hl) rfl) ac ?_
 rintro _ L ⟨rfl,rfl⟩
 obtain ⟨key,hkey⟩:∃ key,bS (aD label) seed=key:=⟨_,rfl⟩
 rw [hkey] at hk ⊢
 repeat first|refine aa ?_|intro _
 rename_i b
 refine GO.ent (Ent.c6 (enc:=encZ .i64) (sz:=1) (xs:=[IntKind.i64.wrap (key:Int),(at_:Int)]) rfl rfl (fun _ _=>rfl) (by simp)) ?_
 refine GO.ef (Ef.a6 (CI tY (some ⟨b,0,none⟩) 2 2 [IntKind.i64.wrap (key:Int),(at_:Int)] rfl ac (by simp)) rfl) ac ?_
 rintro _ _ ⟨rfl,rfl⟩
 rw [pR hk ab,tX]
 repeat first|refine aa ?_|intro _
 exact KX.a6 ai Ent.drop ⟨rfl,rfl⟩
theorem un {L:List HP} (w n:Nat) (hw:w<18446744073709551616) (h1:1≤n) (h2:n≤4611686018427387904) :
  Tri Tryz.prog 263 #[.int .u64 (w:Int),.int .i64 (n:Int)] L (fun v L'=>v=.tuple #[.int .i64 (if accW w n then ((w % n:Nat):Int) else 0),.bool (dB (accW w n))]∧L' = L):=by
 have hm3:=Nat.mod_lt w (show 0<n by omega)
 have hap:=Di (n:=n) ab hw
 refine Tri.body (args:=[.int .u64 (w:Int),.int .i64 (n:Int)]) 25 Hf Tryz.func263 rfl rfl rfl (by simp) ?_
 repeat first|refine aa ?_|intro _
 rw [show (w:Int) % (n:Int)=((w % n:Nat):Int) from rfl]
 generalize w % n=r at hm3 hap ⊢
 repeat first|refine aa ?_|intro _
 refine GO.ev (Ev.d9 (a:=18446744073709551615) (b:=w) ab ac rfl rfl) ac ?_
 repeat first|refine aa ?_|intro _
 refine GO.ev (Ev.d9 (a:=n) (b:=1) ab ab rfl rfl) ac ?_
 repeat first|refine aa ?_|intro _
 refine GO.ev (Ev.d9 (a:=n - 1) (b:=r) ab ab rfl rfl) ac ?_
 by_cases h3:18446744073709551615 - w<n - 1 - r
 ·have hna:¬accW w n:=fun h=>hap.1 h h3
  rw [if_neg hna,an hna]
  repeat first|refine aa ?_|intro _
  exact KX.a6 ai (Ent.refl _) ⟨rfl,rfl⟩
 ·have ha:accW w n:=hap.2 h3
  rw [if_pos ha,aw ha]
  repeat first|refine aa ?_|intro _
  exact KX.a6 ai (Ent.refl _) ⟨rfl,rfl⟩
abbrev FD:Nat:=209
abbrev eh (d:Nat) (ad:Option Addr) (c:Nat) (seed:List Int) (label:ByteArray) (at_:Nat):HP:=obj d FD [.slice ad seed.length c,.string label,.int .i64 (at_:Int)]
theorem qx (key n a k:Nat) (hk:k≤128) (hr:∀ i,i<k→¬accW (dw key (a+i)) n):bU key n a=gB jt key n (128 - k) (a+k):=by
 induction k with
 | zero=>rfl
 | succ k ih =>
  have hrk:¬accW (gD jt key (a+k)) n:=hr k ab
  rw [ih ab (fun i hi=>hr i ab),show 128 - k=(128 - (k+1))+1 by omega,kc,if_neg hrk,show a+k+1=a+(k+1) by omega]
theorem JH (key a:Nat):dw key a=gD jt key a:=rfl
attribute [local irreducible] bU dw bS
abbrev wP:List Stp:=[.ev 0,.ev 1,.ev 2,.ev 3,.ev 4,.ev 5,.ev 6,.ev 7,.ev 8,.ev 9,.ev 10,.ev 11,.ef 12,.ev 13]
theorem fS {φ ψ:Prop} (k:ψ) (h:Hid ψ→φ:=by intro k;(with_reducible apply G.a7);first|refine G.a6 (N:=44) (id:=6) wP mixed ah (Hid.out k)):φ:=h ⟨k⟩
theorem qw {L:List HP} (d:Nat) (ad:Option Addr) (c:Nat) (seed:List Int) (label:ByteArray) (at_ n:Nat) [hrd:Rds (eh d ad c seed label at_::L) ad Int (encZ .u8) 1 seed] (hrd2:∀ k,Rds (eh d ad c seed label k::L) ad Int (encZ .u8) 1 seed) (hb:dy seed) (hl:seed.length≤100000000) (hls:label.size≤1000000) (ha:at_≤1000000000000) (h1:1≤n) (h2:n≤4611686018427387904) :
  Tri Tryz.prog 176 #[.pointer (some ⟨d,0,none⟩),.int .i64 (n:Int)] (eh d ad c seed label at_::L) (fun v L'=>v=.tuple #[.int .i64 (bU (bS (aD label) seed) n at_).1,.int .i64 (bU (bS (aD label) seed) n at_).2.1]∧L' = eh d ad c seed label (bU (bS (aD label) seed) n at_).2.2::L):=by
 have hdl:∀ a,dw (bS (aD label) seed) a<18446744073709551616:=fun a=>EA _ _
 obtain ⟨key,hkey⟩:∃ key,bS (aD label) seed=key:=⟨_,rfl⟩
 have hwd:∀ (L:List HP) (a:Nat) (_:Rds L ad Int (encZ .u8) 1 seed) (_:a<4611686018427387904),Tri Tryz.prog 262 #[.slice ad seed.length c,.string label,.int .i64 (a:Int)] L (fun v L'=>v=.int .u64 (dw key a:Int)∧L' = L):=fun L a h ha=>by
  rw [← hkey]
  exact zo ad c seed label a hb hl hls ha
 rw [hkey] at hdl ⊢
 clear hkey
 refine Tri.body (args:=[.pointer (some ⟨d,0,none⟩),.int .i64 (n:Int)]) 44 Iz Tryz.func176 rfl rfl rfl (by simp) ?_
 repeat first|refine aa ?_|intro _|refine fS ?_
 refine G.loop (α:=Nat) (fun k=>k≤128∧∀ i,i<k→¬accW (dw key (at_+i)) n) (fun k=>[(0,.pointer (some ⟨d,0,none⟩)),(1,.int .i64 (n:Int)),(6,.int .i64 (k:Int))]) (fun k=>eh d ad c seed label (at_+k)::L) (fun k=>128 - k) 0 ⟨ab,fun i hi=>by omega⟩ aj (Ent.refl _) ?_
 rintro k ⟨hk,hr⟩
 by_cases hlt:k<128
 case neg =>
  obtain rfl:k=128:=ab
  have e:bU key n at_=(0,4,at_+128):=qx key n at_ 128 hk hr
  rw [e]
  repeat first|refine aa ?_|intro _|refine fS ?_
  exact KX.a6 ai (Ent.refl _) ⟨rfl,rfl⟩
 have hd1:=hdl (at_+k)
 have hrk:=hrd2 (at_+k)
 have hfr:=qx key n at_ k hk hr
 rw [show 128 - k=(128 - (k+1))+1 by omega,kc] at hfr
 rw [show gD jt key (at_+k)=dw key (at_+k) from (JH key (at_+k)).symm] at hfr
 repeat first|refine aa ?_|intro _|refine fS ?_
 refine GPW.ef (Ef.a6 (hwd _ (at_+k) hrk ab) rfl) ac ?_
 rintro _ _ ⟨rfl,rfl⟩
 repeat first|refine aa ?_|intro _|refine fS ?_
 refine GO.ef (Ef.a6 (un (dw key (at_+k)) n hd1 h1 h2) rfl) ac ?_
 rintro _ _ ⟨rfl,rfl⟩
 by_cases hacc:accW (dw key (at_+k)) n
 ·rw [if_pos hacc] at hfr
  rw [if_pos hacc,aw hacc,hfr]
  repeat first|refine aa ?_|intro _|refine fS ?_
  exact KX.a6 ai (Ent.refl _) ⟨rfl,rfl⟩
 ·rw [if_neg hacc,an hacc]
  repeat first|refine aa ?_|intro _|refine fS ?_
  refine ⟨k+1,⟨ab,fun i hi=>?_⟩,ab,?_,Ent.refl _⟩
  ·by_cases hik:i=k
   ·rw [hik];exact hacc
   ·exact hr i ab
  ·rw [show ((k+1:Nat):Int)=(k:Int)+1 by omega]
   exact aj
theorem BR {L:List HP} (d:Nat) (ad:Option Addr) (c:Nat) (seed:List Int) (label:ByteArray) (at_:Nat) (num den:Int) [hrd:Rds (eh d ad c seed label at_::L) ad Int (encZ .u8) 1 seed] (hrd2:∀ k,Rds (eh d ad c seed label k::L) ad Int (encZ .u8) 1 seed) (hb:dy seed) (hl:seed.length≤100000000) (hls:label.size≤1000000) (ha:at_≤1000000000000) (h2:den≤4611686018427387904) :
  Tri Tryz.prog 119 #[.pointer (some ⟨d,0,none⟩),.int .i64 num,.int .i64 den] (eh d ad c seed label at_::L) (fun v L'=>v=.tuple #[.bool (hitD (bS (aD label) seed) num den at_).1,.int .i64 (hitD (bS (aD label) seed) num den at_).2.1]∧L' = eh d ad c seed label (hitD (bS (aD label) seed) num den at_).2.2::L):=by
 refine Tri.body (args:=[.pointer (some ⟨d,0,none⟩),.int .i64 num,.int .i64 den]) 35 Jq Tryz.func119 rfl rfl rfl (by simp) ?_
 by_cases h:0≤num∧1≤den∧num≤den
 case neg =>
  have e:hitD (bS (aD label) seed) num den at_=(false,1,at_):=if_neg h
  rw [e]
  by_cases a1:0≤num
  ·by_cases a2:1≤den
   ·have a3:den<num:=ab
    repeat first|refine aa ?_|intro _
    exact KX.a6 ai (Ent.refl _) ⟨rfl,rfl⟩
   ·repeat first|refine aa ?_|intro _
    exact KX.a6 ai (Ent.refl _) ⟨rfl,rfl⟩
  ·repeat first|refine aa ?_|intro _
   exact KX.a6 ai (Ent.refl _) ⟨rfl,rfl⟩
 have e:hitD (bS (aD label) seed) num den at_=(decide ((bU (bS (aD label) seed) den.toNat at_).2.1=0∧(bU (bS (aD label) seed) den.toNat at_).1<num),(bU (bS (aD label) seed) den.toNat at_).2.1,(bU (bS (aD label) seed) den.toNat at_).2.2):=if_pos h
 rw [e]
 obtain ⟨a1,a2,a3⟩:=h
 obtain ⟨dN,rfl⟩:∃ dN:Nat,den=(dN:Int):=⟨den.toNat,ab⟩
 rw [Int.toNat_natCast]
 repeat first|refine aa ?_|intro _
 refine GO.ef (Ef.a6 (qw d ad c seed label at_ dN hrd2 hb hl hls ha ab ab) rfl) ac ?_
 rintro _ _ ⟨rfl,rfl⟩
 generalize bU (bS (aD label) seed) dN at_=r
 obtain ⟨r1,r2,r3⟩:=r
 dsimp only
 by_cases h5:r2=0
 ·by_cases h6:r1<num
  ·repeat first|refine aa ?_|intro _
   exact KX.a6 ai (Ent.refl _) ⟨by rw [aw h6,decide_eq_true ⟨h5,h6⟩];rfl,rfl⟩
  ·repeat first|refine aa ?_|intro _
   exact KX.a6 ai (Ent.refl _) ⟨by rw [an h6,decide_eq_false (fun h=>h6 h.2)];rfl,rfl⟩
 ·repeat first|refine aa ?_|intro _
  exact KX.a6 ai (Ent.refl _) ⟨by rw [decide_eq_false (fun h=>h5 h.1)];rfl,rfl⟩
end
section
theorem Eh:∀ n:Nat,n<10→strOfNums [48+(n:Int)]=decS n:=by decide +kernel
theorem Eg:∀ n:Nat,n<100→10≤n→strOfNums [48+(n:Int) / 10]++(strOfNums [48+(n:Int) % 10]++⟨#[]⟩)=decS n:=by decide +kernel
theorem Db (a:ByteArray):a++(⟨#[]⟩:ByteArray)=a:=by
 rw [show (⟨#[]⟩:ByteArray)=ByteArray.empty from rfl]
 exact ByteArray.append_empty
theorem kE {L:List HP} (n:Nat) (h:n<100):Tri Tryz.prog 17 #[.int .i64 (n:Int)] L (fun v L'=>v=.string (decS n)∧L' = L):=by
 refine Tri.body (args:=[.int .i64 (n:Int)]) 23 en17 Tryz.func17 rfl rfl rfl (by simp) ?_
 repeat first|refine aa ?_|intro _
 by_cases h1:n<10
 ·refine G.d7 1 (GR.step ?_)
  repeat first|refine aa ?_|intro _
  rename_i b1
  refine GO.ent (Ent.c6 (enc:=encZ .u8) (sz:=1) (xs:=[48+(n:Int)]) rfl rfl (by simp [encZ]) (by simp)) ?_
  repeat first|refine aa ?_|intro _
  have hsz:(strOfNums [48+(n:Int)]).size+(⟨#[]⟩:ByteArray).size≤1000000000:=by rw [strOfNums_size];exact (by decide:1+0≤1000000000)
  refine GO.ev (Ev.e7 rfl rfl hsz) ac ?_
  rw [Db,Eh n h1]
  repeat first|refine aa ?_|intro _
  exact KX.a6 ai ae ⟨rfl,rfl⟩
 ·have h2:(0:Int)≤(n:Int) / 10∧(n:Int) / 10<10∧0≤(n:Int) % 10∧(n:Int) % 10<10:=ab
  refine G.d7 2 (GR.step ?_)
  repeat first|refine aa ?_|intro _
  rename_i b1
  refine GO.ent (Ent.c6 (enc:=encZ .u8) (sz:=1) (xs:=[48+(n:Int) % 10]) rfl rfl (by simp [encZ]) (by simp)) ?_
  repeat first|refine aa ?_|intro _
  have hsz:(strOfNums [48+(n:Int) % 10]).size+(⟨#[]⟩:ByteArray).size≤1000000000:=by rw [strOfNums_size];exact (by decide:1+0≤1000000000)
  refine GO.ev (Ev.e7 rfl rfl hsz) ac ?_
  repeat first|refine aa ?_|intro _
  refine GR.step ?_
  repeat first|refine aa ?_|intro _
  rename_i b2
  refine GO.ent (Ent.c6 (enc:=encZ .u8) (sz:=1) (xs:=[48+(n:Int) / 10]) rfl rfl (by simp [encZ]) (by simp)) ?_
  repeat first|refine aa ?_|intro _
  have hsz2:(strOfNums [48+(n:Int) / 10]).size+(strOfNums [48+(n:Int) % 10]++(⟨#[]⟩:ByteArray)).size≤1000000000:=by rw [Db,strOfNums_size,strOfNums_size];exact (by decide:1+1≤1000000000)
  refine GO.ev (Ev.e7 rfl rfl hsz2) ac ?_
  rw [Eg n h ab]
  repeat first|refine aa ?_|intro _
  exact KX.a6 ai ae ⟨rfl,rfl⟩
end
section
theorem gu (key:Nat) (num den:Int):cB key num den 0=(0,0):=rfl
theorem lq {key:Nat} {num den:Int} {k:Nat} {p:Bool×Int×Nat} (hp:hitD key num den (cB key num den k).1=p):cB key num den (k+1)=(p.2.2,if p.1=true then (cB key num den k).2+1 else (cB key num den k).2):=by
 rw [← hp]
 rfl
theorem nq (seed:List Int) (id times:Nat) (num den:Int):da seed id times num den=(cB (bS (aD (craftBA++decS id)) seed) num den times).2:=rfl
theorem mO (n:Nat):(craftBA++decS n).size≤100:=by
 rw [ByteArray.size_append]
 have:=la n
 have h7:craftBA.size=6:=by decide
 omega
attribute [local irreducible] bS cB da hitD bU
theorem qv {L:List HP} (ad:Option Addr) (c:Nat) (seed:List Int) [hrd:Rds L ad Int (encZ .u8) 1 seed] (hb:dy seed) (hl:seed.length≤4096) (r:RuV) (j:JobM) (hid:0≤j.id∧j.id<100) (ht:0≤j.times∧j.times≤1000) (hc:1≤r.chance∧r.chance≤r.of_∧r.of_≤1000000) :
  Tri Tryz.prog 73 #[.slice ad seed.length c,.agg (aA r).toArray,.agg (aq j).toArray] L (fun v L'=>v=.int .i64 (da seed j.id j.times r.chance r.of_)∧L' = L):=by
 obtain ⟨id,acc,hold,rule,times,beg,fin,done,won,lost⟩:=j
 dsimp only at hid ht ⊢
 obtain ⟨n,rfl⟩:∃ n:Nat,id=(n:Int):=⟨id.toNat,ab⟩
 obtain ⟨m,rfl⟩:∃ m:Nat,times=(m:Int):=⟨times.toNat,ab⟩
 rw [nq]
 have hsz:=mO n
 have hadd:craftBA.size+(decS n).size≤1000000000:=by rw [← ByteArray.size_append];omega
 refine Tri.body (args:=[.slice ad seed.length c,.agg (aA r).toArray,.agg (aq ⟨(n:Int),acc,hold,rule,(m:Int),beg,fin,done,won,lost⟩).toArray]) 38 en73 Tryz.func73 rfl rfl rfl (by simp) ?_
 simp only [aA,aq]
 repeat first|refine aa ?_|intro _
 rename_i b4 b5
 refine GO.ef (Ef.a6 (kE n ab) rfl) ac ?_
 rintro _ _ ⟨rfl,rfl⟩
 repeat first|refine aa ?_|intro _
 refine GO.ev (Ev.e7 rfl rfl hadd) ac ?_
 repeat first|refine aa ?_|intro _
 rename_i d
 obtain ⟨key,hkey⟩:∃ key,bS (aD (craftBA++decS n)) seed=key:=⟨_,rfl⟩
 have hb1:=fun k=>jN (key:=key) ⟨hc.1,hc.2.1⟩ k
 have hhit:∀ (L:List HP) (a:Nat) (_:∀ k,Rds (eh d ad c seed (craftBA++decS n) k::L) ad Int (encZ .u8) 1 seed) (_:a≤1000000000000),Tri Tryz.prog 119 #[.pointer (some ⟨d,0,none⟩),.int .i64 r.chance,.int .i64 r.of_] (eh d ad c seed (craftBA++decS n) a::L) (fun v L'=>v=.tuple #[.bool (hitD key r.chance r.of_ a).1,.int .i64 (hitD key r.chance r.of_ a).2.1]∧L' = eh d ad c seed (craftBA++decS n) (hitD key r.chance r.of_ a).2.2::L):=fun L a h2 ha=>by
  have h1:=h2 a
  rw [← hkey]
  exact BR d ad c seed (craftBA++decS n) a r.chance r.of_ h2 hb ab ab ha ab
 rw [hkey]
 clear hkey
 refine G.loop (α:=Nat) (fun k=>k≤m) (fun k=>[(4,.pointer (some ⟨b4,0,none⟩)),(5,.pointer (some ⟨b5,0,none⟩)),(7,.pointer (some ⟨d,0,none⟩)),(8,.int .i64 (cB key r.chance r.of_ k).2),(9,.int .i64 (k:Int))]) (fun k=>eh d ad c seed (craftBA++decS n) (cB key r.chance r.of_ k).1::obj b5 tRJ [.int .i64 (n:Int),.int .i64 acc,.int .i64 hold,.int .i64 rule,.int .i64 (m:Int),.int .i64 beg,.int .i64 fin,.bool done,.int .i64 won,.int .i64 lost]::obj b4 67 [.string r.name,.bool r.spawn,.int .i64 r.level,.int .i64 r.time,.int .i64 r.chance,.int .i64 r.of_,.slice r.take.ad r.take.l.length r.take.cap,.slice r.give.ad r.give.l.length r.give.cap,.slice r.back.ad r.back.l.length r.back.cap]::L) (fun k=>m - k) 0 (Nat.zero_le _) (by rw [gu];exact aj) (by rw [gu];simp only [eh,Int.natCast_zero];exact ae) ?_
 intro k hk
 by_cases hlt:k<m
 case neg =>
  obtain rfl:k=m:=ab
  repeat first|refine aa ?_|intro _
  exact KX.a6 ai ae ⟨rfl,rfl⟩
 obtain ⟨hb2,hb3,hb4⟩:=hb1 k
 obtain ⟨p,hp⟩:∃ p,hitD key r.chance r.of_ (cB key r.chance r.of_ k).1=p:=⟨_,rfl⟩
 have hs:=lq hp
 repeat first|refine aa ?_|intro _
 refine GO.ef (Ef.a6 (hhit _ (cB key r.chance r.of_ k).1 (fun k=>inferInstance) ab) rfl) ac ?_
 rw [hp]
 rintro _ _ ⟨rfl,rfl⟩
 obtain ⟨p1,p2,p3⟩:=p
 dsimp only at hs ⊢
 cases p1 with
 | true =>
  rw [if_pos rfl] at hs
  repeat first|refine aa ?_|intro _
  refine ⟨k+1,ab,ab,?_,?_⟩
  ·rw [hs,show ((k+1:Nat):Int)=(k:Int)+1 by omega]
   exact aj
  ·rw [hs]
   exact ae
 | false =>
  rw [if_neg ac] at hs
  repeat first|refine aa ?_|intro _
  refine ⟨k+1,ab,ab,?_,?_⟩
  ·rw [hs,show ((k+1:Nat):Int)=(k:Int)+1 by omega]
   exact aj
  ·rw [hs]
   exact ae
theorem zn {L:List HP} (ad:Option Addr) (c:Nat) (ws:List Int) [hrd:Rds L ad Int (encZ .i64) 1 ws] (hl:ws.length≤64) (hw:∀ w∈ws,1≤w∧w≤1099511627776) :
  Tri Tryz.prog 187 #[.slice ad ws.length c] L (fun v L'=>v=.int .i64 (psum ws ws.length)∧L' = L):=by
 have hpb:=fun i h=>ov hw i h
 refine Tri.body (args:=[.slice ad ws.length c]) 34 Iw Tryz.func187 rfl rfl rfl (by simp) ?_
 repeat first|refine aa ?_|intro _
 refine G.loop (α:=Nat) (fun i=>i≤ws.length) (fun i=>[(0,.slice ad ws.length c),(3,.int .i64 1152921504606846976),(4,.int .i64 (psum ws i)),(5,.int .i64 (i:Int))]) (fun _=>L) (fun i=>ws.length - i) 0 (Nat.zero_le _) aj (Ent.refl _) ?_
 intro i hi
 by_cases hlt:i<ws.length
 case neg =>
  obtain rfl:i=ws.length:=ab
  repeat first|refine aa ?_|intro _
  exact KX.a6 ai (Ent.refl _) ⟨rfl,rfl⟩
 have hii:(i:Int).toNat=i:=Int.toNat_natCast i
 have h1:=hpb i ab
 have h2:=hw _ (ap hlt)
 have h3:=jI ws hlt
 rw [← hii] at h2
 have hlt' : (i:Int).toNat<ws.length:=ab
 repeat first|refine aa ?_|intro _
 rw [hii]
 refine ⟨i+1,ab,ab,?_,Ent.refl _⟩
 rw [h3,show ((i+1:Nat):Int)=(i:Int)+1 by omega]
 exact aj
theorem Dx {key:Nat} {ws:List Int} {a:Nat} {n:Nat} (hn:psum ws ws.length=(n:Int)) {r:Int×Int×Nat} (h:bU key n a=r):dg key ws a=if r.2.1=0 then ((iT ws r.1:Int),0,r.2.2) else (0,r.2.1,r.2.2):=uO (by rw [hn,Int.toNat_natCast];exact h)
attribute [local irreducible] dg
theorem zt {L:List HP} (d:Nat) (ad:Option Addr) (c:Nat) (seed:List Int) (label:ByteArray) (at_:Nat) (wad:Option Addr) (wc:Nat) (ws:List Int) (hrd2:∀ k,Rds (eh d ad c seed label k::L) ad Int (encZ .u8) 1 seed) [hrw:∀ k,Rds (eh d ad c seed label k::L) wad Int (encZ .i64) 1 ws] (hb:dy seed) (hsl:seed.length≤4096) (hls:label.size≤1000000) (ha:at_≤1000000000000) (hl:ws.length≤64) (hl0:0<ws.length) (hw:∀ w∈ws,1≤w∧w≤1099511627776) :
  Tri Tryz.prog 129 #[.pointer (some ⟨d,0,none⟩),.slice wad ws.length wc] (eh d ad c seed label at_::L) (fun v L'=>v=.tuple #[.int .i64 (dg (bS (aD label) seed) ws at_).1,.int .i64 (dg (bS (aD label) seed) ws at_).2.1]∧L' = eh d ad c seed label (dg (bS (aD label) seed) ws at_).2.2::L):=by
 have hpb:=ov hw ws.length (Nat.le_refl _)
 have hmo:=fun i j h1 h2=>kO (ws:=ws) (fun w h=>by have:=hw w h;omega) (i:=i) (j:=j) h1 h2
 obtain ⟨N,hN⟩:∃ N:Nat,psum ws ws.length=(N:Int):=⟨(psum ws ws.length).toNat,ab⟩
 have hm64:(ws.length:Int)*1099511627776≤64*1099511627776:=Int.mul_le_mul_of_nonneg_right ab ac
 refine Tri.body (args:=[.pointer (some ⟨d,0,none⟩),.slice wad ws.length wc]) 40 Ji Tryz.func129 rfl rfl rfl (by simp) ?_
 repeat first|refine aa ?_|intro _
 refine GO.ef (Ef.a6 (zn wad wc ws hl hw) rfl) ac ?_
 rintro _ _ ⟨rfl,rfl⟩
 rw [hN]
 repeat first|refine aa ?_|intro _
 refine GO.ef (Ef.a6 (qw d ad c seed label at_ N hrd2 hb ab hls ha ab ab) rfl) ac ?_
 rintro _ _ ⟨rfl,rfl⟩
 have hrb:=uq (key:=bS (aD label) seed) (n:=N) (a:=at_) ab
 obtain ⟨r,hr⟩:∃ r,bU (bS (aD label) seed) N at_=r:=⟨_,rfl⟩
 rw [Dx hN hr]
 rw [hr] at hrb ⊢
 clear hr
 obtain ⟨r1,r2,r3⟩:=r
 dsimp only at hrb ⊢
 by_cases h5:r2=0
 case neg =>
  rw [if_neg h5]
  repeat first|refine aa ?_|intro _
  refine G.d7 1 (GR.step ?_)
  repeat first|refine aa ?_|intro _
  exact KX.a6 ai (Ent.refl _) ⟨rfl,rfl⟩
 rw [if_pos h5]
 repeat first|refine aa ?_|intro _
 refine G.loop (α:=Nat) (fun i=>i≤ws.length∧∀ k,k<i→¬r1<psum ws (k+1)) (fun i=>[(1,.slice wad ws.length wc),(7,.int .i64 (r1 - psum ws i)),(8,.int .i64 r2),(9,.int .i64 (i:Int))]) (fun _=>eh d ad c seed label r3::L) (fun i=>ws.length - i) 0 ⟨Nat.zero_le _,fun k hk=>by omega⟩ (by rw [show psum ws 0=0 from rfl,Int.sub_zero];exact aj) (Ent.refl _) ?_
 rintro i ⟨hi,hlow⟩
 have hlt:i<ws.length:=by
  rcases Nat.lt_or_ge i ws.length with h|h
  ·exact h
  ·have h6:=hlow (ws.length - 1) ab
   rw [show ws.length - 1+1=ws.length by omega,hN] at h6
   omega
 have hii:(i:Int).toNat=i:=Int.toNat_natCast i
 have h3:=jI ws hlt
 have hw1:=hw _ (ap hlt)
 have hm0:=hmo 0 i (Nat.zero_le _) ab
 have hm1:=hmo (i+1) ws.length ab (Nat.le_refl _)
 rw [show psum ws 0=0 from rfl] at hm0
 rw [← hii] at hw1
 have hlt' : (i:Int).toNat<ws.length:=ab
 by_cases h6:r1<psum ws (i+1)
 ·have h7:¬(ws[(i:Int).toNat]!≤r1 - psum ws i):=by rw [hii];omega
  rw [px ws r1 i hlt hlow h6]
  repeat first|refine aa ?_|intro _
  exact KX.a6 ai (Ent.refl _) ⟨by rw [h5];rfl,rfl⟩
 ·have h7:ws[(i:Int).toNat]!≤r1 - psum ws i:=by rw [hii];omega
  repeat first|refine aa ?_|intro _
  rw [hii]
  refine ⟨i+1,⟨ab,fun k hk=>?_⟩,ab,?_,Ent.refl _⟩
  ·by_cases hki:k=i
   ·rw [hki];exact h6
   ·exact hlow k ab
  ·rw [h3,show r1 - (psum ws i+ws[i]!)=r1 - psum ws i - ws[i]! by omega,show ((i+1:Nat):Int)=(i:Int)+1 by omega]
   exact aj
end
section
noncomputable def eD (S:LedM) (j:JobM) (times:Int) (failed:Bool) (tick:Int):Int×LedM:=dH S j times S.cat.rules[j.rule.toNat]!.take (if failed then S.cat.rules[j.rule.toNat]!.back else S.cat.rules[j.rule.toNat]!.give) (if failed then -2 - j.rule else j.rule) tick
theorem mq {S:LedM} {j:JobM} {times:Int} {failed:Bool} {tick:Int} {s:StM} (hs:gn j.acc j.hold S.cat.rules[j.rule.toNat]!.take (if failed then S.cat.rules[j.rule.toNat]!.back else S.cat.rules[j.rule.toNat]!.give) times (if failed then -2 - j.rule else j.rule) tick=s):eD S j times failed tick=(if (tryM S s).1=0 then times else 0,aI S s):=by
 rw [← hs]
 rfl
theorem rJ (a b:List (Int×Int)) (times hold acc:Int):(a.map (bV times hold 0)++b.map (bV times 0 acc)).map (·.m)=a.map (mkMv times hold 0)++b.map (mkMv times 0 acc):=by
 rw [List.map_append,jh,jh]
attribute [local irreducible] eD dH tryM aI cL
abbrev wO:List Stp:=[.ev 0,.ev 1,.ev 2,.ev 3,.ev 4,.ev 5,.ev 6,.ev 7,.ev 8,.ev 9,.ev 10,.ev 11,.ef 12,.ef 13]
abbrev wM:List Stp:=[.ev 0,.ev 1,.ev 2,.ev 3,.ev 4,.ev 6,.ev 7,.ev 8,.ev 9,.ef 5,.ef 10,.ef 11,.ev 12,.ef 13]
abbrev wL:List Stp:=[.ev 0,.ev 1,.ev 2,.ev 3,.ev 4,.ef 5,.ev 6,.ev 7,.ev 8,.ev 9,.ev 10]
theorem dl {φ ψ:Prop} (k:ψ) (h:Hid ψ→φ:=by intro k;(with_reducible apply G.a7);first|refine G.a6 (N:=69) (id:=1) wO mixed ah (Hid.out k)|refine G.a6 (N:=69) (id:=7) wM mixed ah (Hid.out k)|refine G.a6 (N:=69) (id:=8) wL mixed ah (Hid.out k)):φ:=h ⟨k⟩
theorem mY {L:List HP} (yb lb:Nat) (Y:YardM) (y:RYX) (S:LedM) (hS:S.Ok) (hg:CatGood S.cat) (hc:S.cat.Ok) (j:JobM) (times:Int) (failed:Bool) (tick:Int) (hr:dG S.cat.rules j.rule false) (ht:0≤times∧times≤1000) :
  Tri Tryz.prog 128 #[.pointer (some ⟨yb,0,none⟩),.agg (aq j).toArray,.int .i64 times,.bool failed,.int .i64 tick] (aW lb S::obj yb tRY (aT lb Y y)::L) (fun v L'=>v=.int .i64 (eD S j times failed tick).1∧L' = aW lb (eD S j times failed tick).2::obj yb tRY (aT lb Y y)::L):=by
 obtain ⟨hr0,hr1,hr2⟩:=hr
 refine Tri.body (args:=[.pointer (some ⟨yb,0,none⟩),.agg (aq j).toArray,.int .i64 times,.bool failed,.int .i64 tick]) 69 Jj Tryz.func128 rfl rfl rfl (by simp) ?_
 simp only [aq]
 refine G.c6 (f:=eQ lb S) ?_
 intro x
 simp only [eQ,rlL,az,List.cons_append,List.nil_append]
 refine G.c8 ?_
 intro hF
 have hcr:(x.cat.rules.map RuV.m)=S.cat.rules:=by rw [← hF.cat];rfl
 have hrl:S.cat.rules.length=x.cat.rules.length:=by rw [← hcr];simp
 have hil:j.rule.toNat<x.cat.rules.length:=ab
 have hru:S.cat.rules[j.rule.toNat]! = x.cat.rules[j.rule.toNat]!.m:=by rw [← hcr];exact fD x.cat.rules hil
 have hrg:=hg.ru _ (ap (show j.rule.toNat<S.cat.rules.length by omega))
 have h64:=hg.rules
 obtain ⟨r,hrv⟩:∃ r,x.cat.rules[j.rule.toNat]! = r:=⟨_,rfl⟩
 have hm:r∈x.cat.rules:=by rw [← hrv];exact ap hil
 rw [hrv] at hru
 rw [hru] at hrg
 refine G.ent ((Ent.at (A:=catP x.cat) catOpenR).trans ((Ent.at (A:=allP ruP x.cat.rules) (Ent.a8 (f:=ruP) hm)).trans ruOpen)) ?_
 repeat first|((fail_if_success (with_reducible refine G.atS 2 ?_));(with_reducible apply G.seq))|refine aL ?_|intro _|refine dl ?_
 rename_i b6 b11
 rw [hrv]
 refine G.ent (L':=aW lb S::amS r.take::amS r.give::amS r.back::obj b11 67 (aA r)::obj b6 tRJ [.int .i64 j.id,.int .i64 j.acc,.int .i64 j.hold,.int .i64 j.rule,.int .i64 j.times,.int .i64 j.beg,.int .i64 j.fin,.bool j.done,.int .i64 j.won,.int .i64 j.lost]::obj yb tRY (aT lb Y y)::L) ?_ ?_
 ·refine Ent.trans ?_ (df (b:=lb) (S:=S) x hF)
  simp only [rlL,az]
  exact ae
 simp only [aA]
 obtain ⟨hgt1,hgt2⟩:=hrg.take
 obtain ⟨hlim1,hlim2⟩:=hrg.lim
 have htl:r.take.l.length+r.give.l.length≤64:=hlim1
 have htl2:r.take.l.length+r.back.l.length≤64:=hlim2
 have hga:AmB r.take.l:=fun a ha=>⟨by have:=hgt1 a ha;omega,(hgt1 a ha).2.2.2⟩
 have hgb:AmB r.give.l:=fun a ha=>⟨by have:=hrg.give.1 a ha;omega,(hrg.give.1 a ha).2.2.2⟩
 have hgc:AmB r.back.l:=fun a ha=>⟨by have:=hrg.back.1 a ha;omega,(hrg.back.1 a ha).2.2.2⟩
 cases failed with
 | false =>
  obtain ⟨s,hs⟩:∃ s,s=gn j.acc j.hold r.take.l r.give.l times j.rule tick:=⟨_,rfl⟩
  have hpe:eD S j times false tick=(if (tryM S s).1=0 then times else 0,aI S s):=mq (by rw [hru,hs];rfl)
  rw [hpe]
  repeat first|refine aa ?_|intro _|refine dl ?_
  refine GPW.ef (Ef.a6 (fN r.take.ad r.take.l.length r.take.cap r.take.l times j.hold 0 rfl ab hga ab) rfl) ac ?_
  rintro _ _ ⟨ad1,cap1,rfl,rfl⟩
  repeat first|refine aa ?_|intro _|refine dl ?_
  refine GPW.ef (Ef.a6 (fN r.give.ad r.give.l.length r.give.cap r.give.l times 0 j.acc rfl ab hgb ab) rfl) ac ?_
  rintro _ _ ⟨ad2,cap2,rfl,rfl⟩
  have hl1:(r.take.l.map (bV times j.hold 0)).length=r.take.l.length:=by rw [List.length_map]
  have hl2:(r.give.l.map (bV times 0 j.acc)).length=r.give.l.length:=by rw [List.length_map]
  repeat first|refine aa ?_|intro _|refine dl ?_
  refine GPW.ef (Ef.c6 (ad:=ad1) (enc:=aJ) (xs:=r.take.l.map (bV times j.hold 0)) (ys:=r.give.l.map (bV times 0 j.acc)) rfl rfl hl1.symm rfl hl2.symm (fun e _=>ge e) ab ab) ac ?_
  rintro _ _ ⟨ad3,cap3,rfl,rfl⟩
  repeat first|refine aa ?_|intro _|refine dl ?_
  obtain ⟨ms,hms⟩:∃ ms,ms=r.take.l.map (bV times j.hold 0)++r.give.l.map (bV times 0 j.acc):=⟨_,rfl⟩
  have hml:ms.length≤64:=by rw [hms,List.length_append];omega
  have hmp:MvPlain ms:=by rw [hms];exact (MvPlain.mk _ _ _ _).app (MvPlain.mk _ _ _ _)
  have hst:cw 4 j.acc tick j.rule times (ms.map (·.m))=s:=by rw [hms,rJ,hs];rfl
  rw [← hms]
  have hpost:=fun L=>ku (L:=L) lb S hS hc hg 4 j.acc tick j.rule times ad3 ms.length cap3 ms rfl (by unfold cT;omega) ab (by unfold I64;omega) hmp
  rw [hst] at hpost
  refine GPW.ef (Ef.a6 (Tri.pre (hpost _) ae) rfl) ac ?_
  rintro _ _ ⟨rfl,rfl⟩
  by_cases h10:(tryM S s).1=0
  ·rw [if_pos h10]
   repeat first|refine aa ?_|intro _|refine dl ?_
   exact KX.a6 ai ae ⟨rfl,rfl⟩
  ·rw [if_neg h10]
   repeat first|refine aa ?_|intro _|refine dl ?_
   exact KX.a6 ai ae ⟨rfl,rfl⟩
 | true =>
  obtain ⟨s,hs⟩:∃ s,s=gn j.acc j.hold r.take.l r.back.l times (-2 - j.rule) tick:=⟨_,rfl⟩
  have hpe:eD S j times true tick=(if (tryM S s).1=0 then times else 0,aI S s):=mq (by rw [hru,hs];rfl)
  rw [hpe]
  repeat first|refine aa ?_|intro _|refine dl ?_
  refine GPW.ef (Ef.a6 (fN r.take.ad r.take.l.length r.take.cap r.take.l times j.hold 0 rfl ab hga ab) rfl) ac ?_
  rintro _ _ ⟨ad1,cap1,rfl,rfl⟩
  repeat first|refine aa ?_|intro _|refine dl ?_
  refine GPW.ef (Ef.a6 (fN r.back.ad r.back.l.length r.back.cap r.back.l times 0 j.acc rfl ab hgc ab) rfl) ac ?_
  rintro _ _ ⟨ad2,cap2,rfl,rfl⟩
  have hl1:(r.take.l.map (bV times j.hold 0)).length=r.take.l.length:=by rw [List.length_map]
  have hl2:(r.back.l.map (bV times 0 j.acc)).length=r.back.l.length:=by rw [List.length_map]
  repeat first|refine aa ?_|intro _|refine dl ?_
  refine GPW.ef (Ef.c6 (ad:=ad1) (enc:=aJ) (xs:=r.take.l.map (bV times j.hold 0)) (ys:=r.back.l.map (bV times 0 j.acc)) rfl rfl hl1.symm rfl hl2.symm (fun e _=>ge e) ab ab) ac ?_
  rintro _ _ ⟨ad3,cap3,rfl,rfl⟩
  repeat first|refine aa ?_|intro _|refine dl ?_
  obtain ⟨ms,hms⟩:∃ ms,ms=r.take.l.map (bV times j.hold 0)++r.back.l.map (bV times 0 j.acc):=⟨_,rfl⟩
  have hml:ms.length≤64:=by rw [hms,List.length_append];omega
  have hmp:MvPlain ms:=by rw [hms];exact (MvPlain.mk _ _ _ _).app (MvPlain.mk _ _ _ _)
  have hst:cw 4 j.acc tick (-2 - j.rule) times (ms.map (·.m))=s:=by rw [hms,rJ,hs];rfl
  rw [← hms]
  have hpost:=fun L=>ku (L:=L) lb S hS hc hg 4 j.acc tick (-2 - j.rule) times ad3 ms.length cap3 ms rfl (by unfold cT;omega) ab (by unfold I64;omega) hmp
  rw [hst] at hpost
  refine GPW.ef (Ef.a6 (Tri.pre (hpost _) ae) rfl) ac ?_
  rintro _ _ ⟨rfl,rfl⟩
  by_cases h10:(tryM S s).1=0
  ·rw [if_pos h10]
   repeat first|refine aa ?_|intro _|refine dl ?_
   exact KX.a6 ai ae ⟨rfl,rfl⟩
  ·rw [if_neg h10]
   repeat first|refine aa ?_|intro _|refine dl ?_
   exact KX.a6 ai ae ⟨rfl,rfl⟩
end
section
theorem yB (js:List JobM) (tick:Int):dE js tick 0 = -1:=rfl
theorem CY {js:List JobM} {tick:Int} {i:Nat} {b:Int} (hb:dE js tick i=b) (h:dueP js tick i∧(b<0∨js[i]!.fin<js[(max b 0).toNat]!.fin)):dE js tick (i+1)=(i:Int):=by
 unfold dE
 rw [hb,if_pos h]
theorem Bw {js:List JobM} {tick:Int} {i:Nat} {b:Int} (hb:dE js tick i=b) (h:¬(dueP js tick i∧(b<0∨js[i]!.fin<js[(max b 0).toNat]!.fin))):dE js tick (i+1)=b:=by
 unfold dE
 rw [hb,if_neg h]
theorem CZ (js:List JobM) (tick:Int) (i:Nat) : -1≤dE js tick i∧dE js tick i<i:=by
 rcases jB js tick i with ⟨h,_⟩|⟨b,h,h2,_⟩
 ·omega
 ·omega
theorem yO {S:LedM} {seed:List Int} {j:JobM} {tick won:Int} (hw:da seed j.id j.times S.cat.rules[j.rule.toNat]!.chance S.cat.rules[j.rule.toNat]!.of_=won) {p q:Int×LedM} (hp:eD S j won false tick=p) (hc:p.2.cat=S.cat) (hq:eD p.2 j (j.times - won) true tick=q):endJ S seed j tick=(gbM j.acc tick j.hold q.2 S.cat.items.length,{ j with done:=true,won:=p.1,lost:=q.1 }):=by
 subst hw hp hq
 unfold endJ eD
 unfold eD at hc
 dsimp only
 rw [hc]
 rfl
theorem mp {S:LedM} (h:S.Ok) (j:JobM) (times:Int) (failed:Bool) (tick:Int):(eD S j times failed tick).2.Ok∧(eD S j times failed tick).2.cat=S.cat:=by
 obtain ⟨h1,h2,_⟩:=py h j times S.cat.rules[j.rule.toNat]!.take (if failed then S.cat.rules[j.rule.toNat]!.back else S.cat.rules[j.rule.toNat]!.give) (if failed then -2 - j.rule else j.rule) tick
 exact ⟨h1,h2⟩
theorem sx {S:LedM} {j j' : JobM} (h:SameJ j j') (times:Int) (failed:Bool) (tick:Int):eD S j' times failed tick=eD S j times failed tick:=by
 unfold eD dH
 rw [h.acc,h.hold,h.rule]
attribute [local irreducible] eD dH tryM aI cL da gbM endJ advS
abbrev wK:List Stp:=[.ev 0,.ev 1,.ev 2,.ev 3,.ev 4,.ev 5,.ev 6,.ev 7,.ev 8,.ev 9,.ev 10,.ev 11,.ev 12,.ev 13,.ev 14,.ev 15,.ev 16,.ev 17,.ev 18,.ev 19,.ev 20,.ev 21,.ev 22,.ev 23,.ev 24,.ev 25,.ev 26,.ev 27,.ev 28,.ev 29,.ev 30,.ev 31,.ev 32,.ev 33,.ev 34,.ev 35,.ev 36,.ev 37,.ev 38,.ev 39,.ev 40,.ev 41,.ev 42,.ev 43,.ev 44]
abbrev wJ:List Stp:=[.ev 0,.ev 1,.ev 2,.ev 3,.ev 4,.ev 5,.ev 6,.ev 7,.ev 8,.ev 9,.ev 10,.ev 11,.ev 12,.ev 13,.ev 14,.ev 15,.ev 16,.ef 17,.ev 18]
abbrev wI:List Stp:=[.ev 0,.ev 1,.ev 2,.ev 3,.ev 4,.ev 5,.ev 6,.ef 7]
theorem bA {φ ψ:Prop} (k:ψ) (h:Hid ψ→φ:=by intro k;(with_reducible apply G.a7);first|refine G.a6 (N:=156) (id:=11) wK mixed ah (Hid.out k)|refine G.a6 (N:=156) (id:=19) wJ mixed ah (Hid.out k)|refine G.a6 (N:=156) (id:=23) wI mixed ah (Hid.out k)):φ:=h ⟨k⟩
theorem BT {L:List HP} (yb lb:Nat) (Y:YardM) (hY:Y.Ok) (S:LedM) (hS:S.Ok) (hg:CatGood S.cat) (hc:S.cat.Ok) (hR:RulesJ S Y.jobs) (tick:Int) :
  Tri Tryz.prog 85 #[.pointer (some ⟨yb,0,none⟩),.int .i64 tick] (cZ yb lb Y::aW lb S::L) (fun v L'=>∃ ad cap,v=.slice ad (advM S Y tick).1.length cap∧L' = osl (encZ .i64) 1 tInt ad cap (advM S Y tick).1::cZ yb lb (advM S Y tick).2.2::aW lb (advM S Y tick).2.1::L):=by
 have hjl:=hY.len
 refine Tri.body (args:=[.pointer (some ⟨yb,0,none⟩),.int .i64 tick]) 156 en85 Tryz.func85 rfl rfl rfl (by simp) ?_
 refine G.c6 (f:=ryA yb lb Y) ?_
 intro y
 simp only [ryA,ryL,List.cons_append,List.nil_append]
 have hyc:=ed (yb:=yb) (lb:=lb) (Y:=Y) (L:=aW lb S::L) y
 simp only [ryL] at hyc
 refine G.ent (L':=aW lb S::obj yb tRY (aT lb Y y)::isl (encZ .u8) 1 y.sad Y.seed::osl aq 10 tRJ y.jad y.jcap Y.jobs::L) ae ?_
 by_cases h1:Y.tick≤tick
 case neg =>
  rw [eA (fun h=>h1 h.1)]
  repeat first|refine aa ?_|intro _|refine bA ?_
  refine KX.a6 ai ?_ ⟨none,0,rfl,rfl⟩
  refine Ent.trans (Ent.trans ae hyc) (Ent.a7 (encZ .i64) 1 tInt)
 repeat first|refine aa ?_|intro _|refine bA ?_
 refine GO.ef (Ef.a6 (qy lb S hS) rfl) ac ?_
 rintro _ _ ⟨rfl,rfl⟩
 by_cases h2:S.now≤tick
 case neg =>
  rw [eA (fun h=>h2 h.2.1)]
  repeat first|refine aa ?_|intro _|refine bA ?_
  refine KX.a6 ai ?_ ⟨none,0,rfl,rfl⟩
  refine Ent.trans (Ent.trans ae hyc) (Ent.a7 (encZ .i64) 1 tInt)
 by_cases h3:tick≤1099511627776
 case neg =>
  rw [eA (fun h=>h3 h.2.2)]
  repeat first|refine aa ?_|intro _|refine bA ?_
  refine KX.a6 ai ?_ ⟨none,0,rfl,rfl⟩
  refine Ent.trans (Ent.trans ae hyc) (Ent.a7 (encZ .i64) 1 tInt)
 have htk:0≤tick∧tick≤1099511627776:=by have:=hY.tick;omega
 obtain ⟨ids,hids⟩:=eR Y.jobs tick
 rw [ga ⟨h1,h2,h3⟩ hids]
 have hinv:=iy hS hY hR htk hids
 have hidl:=hids.len
 repeat first|refine aa ?_|intro _|refine bA ?_
 refine G.loop (α:=Nat×Bool×Option Addr×Nat) (fun g=>g.1≤ids.length∧(g.2.1=false→g.1=ids.length)) (fun g=>[(0,.pointer (some ⟨yb,0,none⟩)),(1,.int .i64 tick),(5,.slice g.2.2.1 ((ids.take g.1).map (fun k:Nat=>(k:Int))).length g.2.2.2),(6,.bool g.2.1)])
  (fun g=>osl (encZ .i64) 1 tInt g.2.2.1 g.2.2.2 ((ids.take g.1).map (fun k:Nat=>(k:Int)))::aW lb (advS S Y tick ids g.1).1::obj yb tRY (aT lb (advS S Y tick ids g.1).2 y)::isl (encZ .u8) 1 y.sad (advS S Y tick ids g.1).2.seed::osl aq 10 tRJ y.jad y.jcap (advS S Y tick ids g.1).2.jobs::L) (fun g=>(ids.length - g.1)+(if g.2.1 then 1 else 0)) (0,true,none,0) ⟨Nat.zero_le _,fun h=>by cases h⟩ aj ?_ ?_
 ·rw [lf]
  refine (Ent.a7 (encZ .i64) 1 tInt).trans ?_
  simp only [aT,List.take_zero,List.map_nil]
  exact ae
 rintro ⟨g,ag,ad,cap⟩ ⟨hg1,hg2⟩
 dsimp only at hg1 hg2 ⊢
 have hI:=hinv g
 have hsuc:=fun h=>ol (S:=S) (Y:=Y) (tick:=tick) (ids:=ids) (g:=g) h
 obtain ⟨p,hp⟩:∃ p,advS S Y tick ids g=p:=⟨_,rfl⟩
 rw [hp] at hI hsuc
 have htl:((ids.take g).map (fun k:Nat=>(k:Int))).length=g:=by rw [List.length_map,List.length_take];omega
 obtain ⟨S',Y'⟩:=p
 obtain ⟨i1,i2,i3,i4,i5,i6,i7,i8,i9⟩:=hI
 dsimp only at i1 i2 i3 i4 i5 i6 i7 i8 i9 hsuc
 cases ag with
 | false =>
  obtain rfl:=hg2 rfl
  rw [hp]
  dsimp only
  repeat first|refine aa ?_|intro _|refine bA ?_
  refine KX.a6 ai ?_ ⟨ad,cap,?_,rfl⟩
  ·rw [List.take_length]
   refine (Ent.a6 ?_)
   refine Ent.trans ?_ (ed (yb:=yb) (lb:=lb) (Y:=Y') (L:=aW lb S'::L) y)
   simp only [ryL]
   exact ae
  ·rw [List.take_length]
   rfl
 | true =>
 rw [hp]
 dsimp only
 have hjl':=i3.len
 repeat first|refine aa ?_|intro _|refine bA ?_
 refine G.loop (α:=Nat) (fun i=>i≤Y'.jobs.length) (fun i=>[(0,.pointer (some ⟨yb,0,none⟩)),(1,.int .i64 tick),(5,.slice ad ((ids.take g).map (fun k:Nat=>(k:Int))).length cap),(7,.int .i64 (dE Y'.jobs tick i)),(8,.int .i64 (i:Int))])
  (fun _=>osl (encZ .i64) 1 tInt ad cap ((ids.take g).map (fun k:Nat=>(k:Int)))::aW lb S'::obj yb tRY (aT lb Y' y)::isl (encZ .u8) 1 y.sad Y'.seed::osl aq 10 tRJ y.jad y.jcap Y'.jobs::L) (fun i=>Y'.jobs.length - i) 0 (Nat.zero_le _) (by rw [yB];exact aj) ae ?_
 intro i hi
 by_cases hlt:i<Y'.jobs.length
 case pos =>
  have hii:(i:Int).toNat=i:=Int.toNat_natCast i
  have hlt' : (i:Int).toNat<Y'.jobs.length:=ab
  obtain ⟨hb1,hb2⟩:=CZ Y'.jobs tick i
  obtain ⟨bst,hbst⟩:∃ b,dE Y'.jobs tick i=b:=⟨_,rfl⟩
  have hbo:=Bw hbst
  have hbi:=CY hbst
  rw [hbst] at hb1 hb2 ⊢
  rw [← hii] at hbo hbi
  have hfin:∀ b',dE Y'.jobs tick (i+1)=b'→dE Y'.jobs tick ((i:Int).toNat+1)=b':=fun b' h=>by rw [hii];exact h
  cases hd:Y'.jobs[(i:Int).toNat]!.done with
  | true =>
   have e:=hbo (fun q=>by have:=q.1.1;rw [hd] at this;cases this)
   rw [hii] at e
   repeat first|refine aa ?_|intro _|refine bA ?_
   simp only [hd,Bool.not_true]
   repeat first|refine aa ?_|intro _|refine bA ?_
   refine ⟨i+1,ab,ab,?_,by exact ae⟩
   rw [e,show ((i+1:Nat):Int)=(i:Int)+1 by omega]
   exact aj
  | false =>
  by_cases hf:Y'.jobs[(i:Int).toNat]!.fin≤tick
  case neg =>
   have e:=hbo (fun q=>hf q.1.2)
   rw [hii] at e
   repeat first|refine aa ?_|intro _|refine bA ?_
   simp only [hd,Bool.not_false]
   repeat first|refine aa ?_|intro _|refine bA ?_
   refine ⟨i+1,ab,ab,?_,by exact ae⟩
   rw [e,show ((i+1:Nat):Int)=(i:Int)+1 by omega]
   exact aj
  by_cases hn:bst<0
  ·have e:=hbi ⟨⟨hd,hf⟩,.inl hn⟩
   rw [hii] at e
   repeat first|refine aa ?_|intro _|refine bA ?_
   simp only [hd,Bool.not_false]
   repeat first|refine aa ?_|intro _|refine bA ?_
   refine ⟨i+1,ab,ab,?_,by exact ae⟩
   rw [e,show ((i+1:Nat):Int)=(i:Int)+1 by omega]
   exact aj
  by_cases hcm:Y'.jobs[(i:Int).toNat]!.fin<Y'.jobs[(max bst 0).toNat]!.fin
  ·have e:=hbi ⟨⟨hd,hf⟩,.inr hcm⟩
   rw [hii] at e
   repeat first|refine aa ?_|intro _|refine bA ?_
   simp only [hd,Bool.not_false]
   repeat first|refine aa ?_|intro _|refine bA ?_
   refine ⟨i+1,ab,ab,?_,by exact ae⟩
   rw [e,show ((i+1:Nat):Int)=(i:Int)+1 by omega]
   exact aj
  ·have e:=hbo (fun q=>q.2.elim hn hcm)
   rw [hii] at e
   repeat first|refine aa ?_|intro _|refine bA ?_
   simp only [hd,Bool.not_false]
   repeat first|refine aa ?_|intro _|refine bA ?_
   refine ⟨i+1,ab,ab,?_,by exact ae⟩
   rw [e,show ((i+1:Nat):Int)=(i:Int)+1 by omega]
   exact aj
 obtain rfl:i=Y'.jobs.length:=ab
 by_cases hgl:g<ids.length
 case neg =>
  obtain rfl:g=ids.length:=ab
  rw [List.drop_length] at i9
  rw [i9.none]
  repeat first|refine aa ?_|intro _|refine bA ?_
  rw [an (show ¬(0:Int)≤-1 by omega)]
  refine ⟨(ids.length,false,ad,cap),⟨Nat.le_refl _,fun _=>rfl⟩,by simp,aj,?_⟩
  dsimp only
  rw [hp]
  exact ae
 have hdr:ids.drop g=ids[g]!::ids.drop (g+1):=kg hgl
 rw [hdr] at i9
 obtain ⟨hbk,hkl,hkd⟩:=i9.head
 obtain ⟨k,hk⟩:∃ k,ids[g]! = k:=⟨_,rfl⟩
 have hsu:=hsuc hgl
 rw [hk] at hbk hkl hkd hsu
 rw [hbk]
 clear hsuc
 have hkk:(k:Int).toNat=k:=Int.toNat_natCast k
 have hkl' : (k:Int).toNat<Y'.jobs.length:=ab
 obtain ⟨j,hj⟩:∃ j,Y'.jobs[k]! = j:=⟨_,rfl⟩
 have hrj:=i8 k hkl
 rw [hj] at hrj
 obtain ⟨n1,n2,n3,n4⟩:=i3.num k hkl
 obtain ⟨d1,d2⟩:=i3.id k hkl
 rw [hj] at n1 n2 n3 n4 d1 d2
 unfold cn at n2
 rw [← i2] at hrj
 have hgS:CatGood S'.cat:=by rw [i2];exact hg
 have hcS:S'.cat.Ok:=by rw [i2];exact hc
 repeat first|refine aa ?_|intro _|refine bA ?_
 rename_i b9
 rw [hkk,hj]
 simp only [aq]
 repeat first|refine aa ?_|intro _|refine bA ?_
 refine GO.ent (L':=aW lb S'::obj b9 tRJ [.int .i64 j.id,.int .i64 j.acc,.int .i64 j.hold,.int .i64 j.rule,.int .i64 j.times,.int .i64 j.beg,.int .i64 j.fin,.bool true,.int .i64 j.won,.int .i64 j.lost]::osl (encZ .i64) 1 tInt ad cap ((ids.take g).map (fun k:Nat=>(k:Int)))::obj yb tRY (aT lb Y' y)::isl (encZ .u8) 1 y.sad Y'.seed::osl aq 10 tRJ y.jad y.jcap Y'.jobs::L) ae ?_
 refine GO.c7 (f:=eQ lb S') ?_
 intro x
 simp only [eQ,rlL,az,List.cons_append,List.nil_append]
 refine GO.d7 ?_
 intro hF
 refine GO.ent (Ent.at (A:=catP x.cat) catOpenR) ?_
 refine GO.ef (Ef.a6 (me (yb:=yb) (lb:=lb) (sh:=S'.shard) (Y:=Y') (y:=y) (x:=x) hF.catB j.rule false) rfl) ac ?_
 rintro _ _ ⟨rfl,rfl⟩
 rw [hF.cat,aw hrj]
 have hr0:=hrj.1
 have hr1:=hrj.2.1
 have hcr:(x.cat.rules.map RuV.m)=S'.cat.rules:=by rw [← hF.cat];rfl
 have hrl:S'.cat.rules.length=x.cat.rules.length:=by rw [← hcr];simp
 have hil:j.rule.toNat<x.cat.rules.length:=ab
 have hru:S'.cat.rules[j.rule.toNat]! = x.cat.rules[j.rule.toNat]!.m:=by rw [← hcr];exact fD x.cat.rules hil
 have hrg:=hgS.ru _ (ap (show j.rule.toNat<S'.cat.rules.length by omega))
 rw [hru] at hrg
 obtain ⟨_,_,hof,hch1,hch2⟩:=hrg.num
 obtain ⟨won,hwon⟩:∃ won,da Y'.seed j.id j.times x.cat.rules[j.rule.toNat]!.chance x.cat.rules[j.rule.toNat]!.of_=won:=⟨_,rfl⟩
 have hwb:=lU (seed:=Y'.seed) (id:=j.id) (times:=j.times) (show 1≤x.cat.rules[j.rule.toNat]!.chance∧x.cat.rules[j.rule.toNat]!.chance≤x.cat.rules[j.rule.toNat]!.of_ from ⟨hch1,hch2⟩) ab
 have hsucc:=fun (L:List HP) (h:Rds L y.sad Int (encZ .u8) 1 Y'.seed)=>qv (L:=L) y.sad y.scap Y'.seed i3.seed.1 i3.seed.2 x.cat.rules[j.rule.toNat]! { j with done:=true } (show 0≤j.id∧j.id<100 by omega) (show 0≤j.times∧j.times≤1000 by omega) ⟨hch1,hch2,hof.2⟩
 dsimp only at hsucc
 rw [hwon] at hwb hsucc
 repeat first|refine aa ?_|intro _|refine bA ?_
 refine GPW.ef (Ef.a6 (hsucc _ inferInstance) rfl) ac ?_
 rintro _ _ ⟨rfl,rfl⟩
 obtain ⟨p,hp1⟩:∃ p,eD S' j won false tick=p:=⟨_,rfl⟩
 have hsm1:SameJ j { j with done:=true }:=⟨rfl,rfl,rfl,rfl,rfl,rfl,rfl⟩
 have hpf:=fun L=>mY (L:=L) yb lb Y' y S' i1 hgS hcS { j with done:=true } won false tick hrj ab
 rw [sx hsm1,hp1] at hpf
 obtain ⟨p1,p2⟩:=mp i1 j won false tick
 rw [hp1] at p1 p2
 repeat first|refine aa ?_|intro _|refine bA ?_
 refine GO.ent (L':=aW lb S'::obj yb tRY (aT lb Y' y)::obj b9 tRJ [.int .i64 j.id,.int .i64 j.acc,.int .i64 j.hold,.int .i64 j.rule,.int .i64 j.times,.int .i64 j.beg,.int .i64 j.fin,.bool true,.int .i64 j.won,.int .i64 j.lost]::osl (encZ .i64) 1 tInt ad cap ((ids.take g).map (fun k:Nat=>(k:Int)))::isl (encZ .u8) 1 y.sad Y'.seed::osl aq 10 tRJ y.jad y.jcap Y'.jobs::L) ?_ ?_
 ·refine Ent.trans ?_ (df (b:=lb) (S:=S') x hF)
  simp only [rlL,az]
  exact ae
 refine GO.ef (Ef.a6 (hpf _) rfl) ac ?_
 rintro _ _ ⟨rfl,rfl⟩
 have hrj2:dG p.2.cat.rules j.rule false:=by rw [p2];exact hrj
 have hgp:CatGood p.2.cat:=by rw [p2];exact hgS
 have hcp:p.2.cat.Ok:=by rw [p2];exact hcS
 obtain ⟨q,hq1⟩:∃ q,eD p.2 j (j.times - won) true tick=q:=⟨_,rfl⟩
 have hsm2:SameJ j { j with done:=true,won:=p.1 }:=⟨rfl,rfl,rfl,rfl,rfl,rfl,rfl⟩
 have hpf2:=fun L=>mY (L:=L) yb lb Y' y p.2 p1 hgp hcp { j with done:=true,won:=p.1 } (j.times - won) true tick hrj2 ab
 rw [sx hsm2,hq1] at hpf2
 obtain ⟨q1,q2⟩:=mp p1 j (j.times - won) true tick
 rw [hq1] at q1 q2
 clear hpf hsucc
 repeat first|refine aa ?_|intro _|refine bA ?_
 refine GO.ent (L':=aW lb p.2::obj yb tRY (aT lb Y' y)::obj b9 tRJ [.int .i64 j.id,.int .i64 j.acc,.int .i64 j.hold,.int .i64 j.rule,.int .i64 j.times,.int .i64 j.beg,.int .i64 j.fin,.bool true,.int .i64 p.1,.int .i64 j.lost]::osl (encZ .i64) 1 tInt ad cap ((ids.take g).map (fun k:Nat=>(k:Int)))::isl (encZ .u8) 1 y.sad Y'.seed::osl aq 10 tRJ y.jad y.jcap Y'.jobs::L) ae ?_
 refine GO.ef (Ef.a6 (hpf2 _) rfl) ac ?_
 rintro _ _ ⟨rfl,rfl⟩
 obtain ⟨jn,hjn⟩:∃ jn:JobM,jn={ j with done:=true,won:=p.1,lost:=q.1 }:=⟨_,rfl⟩
 have hbk:=fun L=>qB (L:=L) yb lb Y' y q.2 q1 (by rw [q2];exact hgp) (by rw [q2];exact hcp) jn tick
 have hja:jn.acc=j.acc:=by rw [hjn]
 have hjh:jn.hold=j.hold:=by rw [hjn]
 have hje:aq jn=[.int .i64 j.id,.int .i64 j.acc,.int .i64 j.hold,.int .i64 j.rule,.int .i64 j.times,.int .i64 j.beg,.int .i64 j.fin,.bool true,.int .i64 p.1,.int .i64 q.1]:=by rw [hjn];rfl
 rw [hja,hjh,hje,show q.2.cat.items.length=S'.cat.items.length by rw [q2,p2]] at hbk
 clear hpf2
 repeat first|refine aa ?_|intro _|refine bA ?_
 refine GO.ent (L':=aW lb q.2::obj yb tRY (aT lb Y' y)::obj b9 tRJ [.int .i64 j.id,.int .i64 j.acc,.int .i64 j.hold,.int .i64 j.rule,.int .i64 j.times,.int .i64 j.beg,.int .i64 j.fin,.bool true,.int .i64 p.1,.int .i64 q.1]::osl (encZ .i64) 1 tInt ad cap ((ids.take g).map (fun k:Nat=>(k:Int)))::isl (encZ .u8) 1 y.sad Y'.seed::osl aq 10 tRJ y.jad y.jcap Y'.jobs::L) ae ?_
 refine GO.ef (Ef.a6 (hbk _) rfl) ac ?_
 rintro _ _ rfl
 repeat first|refine aa ?_|intro _|refine bA ?_
 refine GPW.efu (Ef.d8 (enc:=aq) jn rfl rfl hje (by rfl) (by rw [← hje];exact mM _) hkl') ?_
 rintro _ _ rfl
 rw [hkk]
 repeat first|refine aa ?_|intro _|refine bA ?_
 refine GO.ef (Ef.a7 (enc:=encZ .i64) (e:=(k:Int)) rfl rfl rfl rfl rfl (by rfl) (eS _ _) ab ab) ac ?_
 rintro _ _ ⟨ad3,cap3,rfl,rfl⟩
 repeat first|refine aa ?_|intro _|refine bA ?_
 have hend:endM tick (S',Y') k=(gbM j.acc tick j.hold q.2 S'.cat.items.length,{ Y' with jobs:=Y'.jobs.set k jn }):=by
  unfold endM
  dsimp only
  rw [hj,yO (by rw [hru];exact hwon) hp1 p2 hq1,hjn]
 have htk1:(ids.take (g+1)).map (fun k:Nat=>(k:Int))=(ids.take g).map (fun k:Nat=>(k:Int))++[(k:Int)]:=by
  rw [List.take_succ_eq_append_getElem hgl,List.map_append,← getElem!_of hgl,hk]
  rfl
 rw [aw (show (0:Int)≤(k:Int) by omega)]
 refine ⟨(g+1,true,ad3,cap3),⟨by dsimp only;omega,fun h=>by cases h⟩,by show (ids.length - (g+1))+1<(ids.length - g)+1;omega,?_,?_⟩
 ·dsimp only
  rw [htk1]
  exact aj
 ·dsimp only
  rw [htk1,hsu,hend]
  dsimp only
  simp only [aT,List.length_set]
  exact ae
end
section
theorem CA (n:Nat):(lootBA++decS n).size≤100:=by
 rw [ByteArray.size_append]
 have:=la n
 have h7:lootBA.size=5:=by decide
 omega
theorem xU (seed:List Int) (n:Nat):dc seed (n:Int)=bS (aD (lootBA++decS n)) seed:=rfl
attribute [local irreducible] bU dg dc bS bW tryM aI cL
abbrev wH:List Stp:=[.ev 0,.ev 1,.ev 2,.ev 3,.ev 4,.ev 5,.ev 6,.ev 7,.ef 8,.ev 9,.ev 10,.ef 11,.ev 12]
abbrev wG:List Stp:=[.ev 0,.ev 1,.ev 2,.ev 3,.ev 4,.ev 5,.ev 6,.ev 7,.ev 8,.ev 9,.ev 10,.ef 11,.ev 12,.ef 13,.ev 14,.ev 15,.ev 16,.ev 17,.ev 18]
theorem cg {φ ψ:Prop} (k:ψ) (h:Hid ψ→φ:=by intro k;(with_reducible apply G.a7);first|refine G.a6 (N:=131) (id:=12) wH mixed ah (Hid.out k)|refine G.a6 (N:=131) (id:=18) wG mixed ah (Hid.out k)):φ:=h ⟨k⟩
theorem wr {L:List HP} (yb lb:Nat) (seed:List Int) (jobs:List JobM) (tk:Int) (lN:Nat) (hY:YardM.Ok ⟨seed,jobs,tk,lN⟩) (S:LedM) (hS:S.Ok) (hg:CatGood S.cat) (hc:S.cat.Ok) (acc table tick:Int) :
  Tri Tryz.prog 87 #[.pointer (some ⟨yb,0,none⟩),.int .i64 acc,.int .i64 table,.int .i64 tick] (cZ yb lb ⟨seed,jobs,tk,lN⟩::aW lb S::L) (fun v L'=>v=.tuple #[.int .i64 (bW S ⟨seed,jobs,tk,lN⟩ acc table tick).1.1,.int .i64 (bW S ⟨seed,jobs,tk,lN⟩ acc table tick).1.2.1,.int .i64 (bW S ⟨seed,jobs,tk,lN⟩ acc table tick).1.2.2]∧L' = cZ yb lb (bW S ⟨seed,jobs,tk,lN⟩ acc table tick).2.2::aW lb (bW S ⟨seed,jobs,tk,lN⟩ acc table tick).2.1::L):=by
 obtain ⟨hs1,hs2⟩:=hY.seed
 obtain ⟨hlo1,hlo2⟩:=hY.loots
 dsimp only at hs1 hs2 hlo1 hlo2
 have hjl:jobs.length≤60:=hY.len
 refine Tri.body (args:=[.pointer (some ⟨yb,0,none⟩),.int .i64 acc,.int .i64 table,.int .i64 tick]) 131 en87 Tryz.func87 rfl rfl rfl (by simp) ?_
 refine G.c6 (f:=ryA yb lb ⟨seed,jobs,tk,lN⟩) ?_
 intro y
 simp only [ryA,ryL,List.cons_append,List.nil_append]
 have hyc:=ed (yb:=yb) (lb:=lb) (Y:=⟨seed,jobs,tk,lN⟩) (L:=aW lb S::L) y
 simp only [ryL] at hyc
 refine G.ent (L':=aW lb S::obj yb tRY (aT lb ⟨seed,jobs,tk,lN⟩ y)::isl (encZ .u8) 1 y.sad seed::osl aq 10 tRJ y.jad y.jcap jobs::L) ae ?_
 repeat first|refine aa ?_|intro _|refine cg ?_
 refine GO.ef (Ef.a6 (iQ yb lb ⟨seed,jobs,tk,lN⟩ y S hS acc tick) rfl) ac ?_
 rintro _ _ ⟨rfl,rfl⟩
 by_cases h1:aM acc∧aV tk S.now tick
 case neg =>
  have e:bW S ⟨seed,jobs,tk,lN⟩ acc table tick=((0,0,1),S,⟨seed,jobs,tk,lN⟩):=fm h1
  rw [e,an h1]
  repeat first|refine aa ?_|intro _|refine cg ?_
  exact KX.a6 ai (Ent.trans ae hyc) ⟨rfl,rfl⟩
 rw [aw h1]
 repeat first|refine aa ?_|intro _|refine cg ?_
 by_cases h4:0≤table
 case neg =>
  have e:bW S ⟨seed,jobs,tk,lN⟩ acc table tick=((0,0,6),S,⟨seed,jobs,tk,lN⟩):=eH h1.1 h1.2 (fun q=>h4 q.1)
  rw [e]
  repeat first|refine aa ?_|intro _|refine cg ?_
  exact KX.a6 ai (Ent.trans ae hyc) ⟨rfl,rfl⟩
 repeat first|refine aa ?_|intro _|refine cg ?_
 refine GO.c7 (f:=eQ lb S) ?_
 intro x
 simp only [eQ,rlL,az,List.cons_append,List.nil_append]
 refine GO.d7 ?_
 intro hF
 have hrc:=df (b:=lb) (S:=S) (L:=obj yb tRY (aT lb ⟨seed,jobs,tk,lN⟩ y)::isl (encZ .u8) 1 y.sad seed::osl aq 10 tRJ y.jad y.jcap jobs::L) x hF
 simp only [rlL,az] at hrc
 have hct:(x.cat.tables.map TbV.m)=S.cat.tables:=by rw [← hF.cat];rfl
 have htl:S.cat.tables.length=x.cat.tables.length:=by rw [← hct];simp
 have ht32:=hF.catB.tables
 by_cases h5:table<x.cat.tables.length
 case neg =>
  have e:bW S ⟨seed,jobs,tk,lN⟩ acc table tick=((0,0,6),S,⟨seed,jobs,tk,lN⟩):=eH h1.1 h1.2 (fun q=>h5 ab)
  rw [e]
  repeat first|refine aa ?_|intro _|refine cg ?_
  exact KX.a6 ai (Ent.trans (Ent.trans ae hrc) (Ent.trans ae hyc)) ⟨rfl,rfl⟩
 have htn:table.toNat<x.cat.tables.length:=ab
 obtain ⟨tb,htb⟩:∃ tb,x.cat.tables[table.toNat]! = tb:=⟨_,rfl⟩
 have htm:S.cat.tables[table.toNat]! = tb.m:=by rw [← hct,← htb];exact BE x.cat.tables htn
 have htg:TbGood S.cat.items.length tb.m:=by rw [← htm];exact hg.tb _ (ap ab)
 obtain ⟨⟨r1,r2⟩,r3⟩:=iE htg
 have hmem:tb∈x.cat.tables:=by rw [← htb];exact ap htn
 have htB:tb.B:=hF.catB.tb _ hmem
 refine GO.ent ((Ent.at (A:=catP x.cat) ((Ent.dup (lL x.cat).pers).trans vO)).trans ((Ent.at (A:=allP tbP x.cat.tables) (Ent.a8 (f:=tbP) hmem)).trans Ent.andE)) ?_
 repeat first|((fail_if_success (with_reducible refine G.atS 7 ?_));(with_reducible apply G.seq))|refine aL ?_|intro _|refine cg ?_
 rw [htb]
 refine G.ent (L':=aW lb S::isl cI 2 tb.ad tb.rows::allP rwP tb.rows::obj yb tRY (aT lb ⟨seed,jobs,tk,lN⟩ y)::isl (encZ .u8) 1 y.sad seed::osl aq 10 tRJ y.jad y.jcap jobs::L) ?_ ?_
 ·refine Ent.trans ?_ (df (b:=lb) (S:=S) x hF)
  simp only [rlL,az]
  exact ae
 clear hrc
 obtain ⟨ws,hws⟩:∃ ws,ws=tb.rows.map (·.weight):=⟨_,rfl⟩
 have hwl:ws.length=tb.rows.length:=by rw [hws];simp
 have hww:∀ w∈ws,1≤w∧w≤1099511627776:=by
  rw [hws]
  intro w hw
  obtain ⟨r,hr,rfl⟩:=List.mem_map.1 hw
  exact (r3 r hr).num
 have hwg:∀ i,i<tb.rows.length→tb.rows[i]!.weight=ws[i]!:=fun i hi=>by rw [hws];exact (ek (fun r:RwV=>r.weight) hi).symm
 repeat first|refine aa ?_|intro _|refine cg ?_
 refine G.loop (α:=Nat×Option Addr×Nat) (fun g=>g.1≤tb.rows.length) (fun g=>[(0,.pointer (some ⟨yb,0,none⟩)),(1,.int .i64 acc),(3,.int .i64 tick),(12,.slice tb.ad tb.rows.length tb.cap),(13,.slice g.2.1 (ws.take g.1).length g.2.2),(14,.int .i64 (g.1:Int))])
  (fun g=>osl (encZ .i64) 1 tInt g.2.1 g.2.2 (ws.take g.1)::aW lb S::isl cI 2 tb.ad tb.rows::allP rwP tb.rows::obj yb tRY (aT lb ⟨seed,jobs,tk,lN⟩ y)::isl (encZ .u8) 1 y.sad seed::osl aq 10 tRJ y.jad y.jcap jobs::L) (fun g=>tb.rows.length - g.1) (0,none,0) (Nat.zero_le _) aj ((Ent.a7 (encZ .i64) 1 tInt).trans (by rw [List.take_zero];exact ae)) ?_
 rintro ⟨i,wad,wcap⟩ hi
 dsimp only at hi ⊢
 have hwtl:(ws.take i).length=i:=by rw [List.length_take];omega
 by_cases hlt:i<tb.rows.length
 case pos =>
  have hii:(i:Int).toNat=i:=Int.toNat_natCast i
  have hlt' : (i:Int).toNat<tb.rows.length:=ab
  repeat first|refine aa ?_|intro _|refine cg ?_
  rw [hii]
  refine GO.ef (Ef.a7 (enc:=encZ .i64) (e:=tb.rows[i]!.weight) rfl rfl rfl rfl rfl (by rfl) (eS _ _) ab ab) ac ?_
  rintro _ _ ⟨ad3,cap3,rfl,rfl⟩
  repeat first|refine aa ?_|intro _|refine cg ?_
  have htk1:ws.take (i+1)=ws.take i++[tb.rows[i]!.weight]:=by
   rw [hwg i hlt,List.take_succ_eq_append_getElem ab,getElem!_of ab]
  refine ⟨(i+1,ad3,cap3),by dsimp only;omega,by dsimp only;omega,?_,?_⟩
  ·dsimp only
   rw [htk1,show ((i+1:Nat):Int)=(i:Int)+1 by omega]
   exact aj
  ·dsimp only
   rw [htk1]
   exact ae
 obtain rfl:i=tb.rows.length:=ab
 rw [List.take_of_length_le ab,hwl]
 refine G.ent (Ent.frz wad) ?_
 have hsz:=CA lN
 have hadd:lootBA.size+(decS lN).size≤1000000000:=by rw [← ByteArray.size_append];omega
 simp only [aT]
 repeat first|refine aa ?_|intro _|refine cg ?_
 refine GPW.ef (Ef.a6 (kE lN ab) rfl) ac ?_
 rintro _ _ ⟨rfl,rfl⟩
 repeat first|refine aa ?_|intro _|refine cg ?_
 refine GPW.evP (Ev.e7 rfl rfl hadd) ac ?_
 repeat first|refine aa ?_|intro _|refine cg ?_
 rename_i d
 rw [← hwl]
 refine GO.ef (Ef.a6 (zt d y.sad y.scap seed (lootBA++decS lN) 0 wad wcap ws (fun k=>inferInstance) hs1 hs2 ab ab ab ab hww) rfl) ac ?_
 rintro _ _ ⟨rfl,rfl⟩
 rw [← xU]
 have hrows:S.cat.tables[table.toNat]!.rows=tb.rows.map RwV.m:=by rw [htm];rfl
 have hwsm:(tb.rows.map RwV.m).map (·.weight)=ws:=by rw [hws,List.map_map];rfl
 obtain ⟨p,hp⟩:∃ p,p=dg (dc seed lN) ws 0:=⟨_,rfl⟩
 have hpb:=ov hww ws.length (Nat.le_refl _)
 have hpr:p.2.1=0→0≤p.1∧p.1<tb.rows.length:=by
  have h:=uP (fun w hw=>by have:=hww w hw;omega) ab ab hp
  rw [hwl] at h
  exact h
 have hlm:=fO (Y:=⟨seed,jobs,tk,lN⟩) (acc:=acc) h1.1 h1.2 ⟨h4,ab⟩ hrows hwsm hp
 rw [← hp]
 clear hp
 rw [hlm]
 by_cases h8:p.2.1=0
 case neg =>
  rw [if_pos h8]
  repeat first|refine aa ?_|intro _|refine cg ?_
  exact KX.a6 ai (Ent.trans ae hyc) ⟨rfl,rfl⟩
 rw [if_neg (fun h=>h h8)]
 obtain ⟨p1,p2⟩:=hpr h8
 have hpn:p.1.toNat<tb.rows.length:=ab
 have hgv:=BO tb.rows hpn
 rw [hgv,show tb.rows[p.1.toNat]!.m.give=tb.rows[p.1.toNat]!.give.l from rfl]
 have hrg:=r3 _ (ap hpn)
 have hrB:tb.rows[p.1.toNat]!.give.l.length≤64:=htB.2 _ (ap hpn)
 have hga:AmB tb.rows[p.1.toNat]!.give.l:=fun a ha=>⟨by have:=hrg.give.1 a ha;omega,(hrg.give.1 a ha).2.2.2⟩
 by_cases h9:tb.rows[p.1.toNat]!.give.l.length=0
 case pos =>
  rw [if_pos h9]
  repeat first|refine aa ?_|intro _|refine cg ?_
  refine KX.a6 ai ?_ ⟨rfl,rfl⟩
  refine Ent.trans ?_ (ed (yb:=yb) (lb:=lb) (Y:=⟨seed,jobs,tick,(lN:Int)+1⟩) (L:=aW lb S::L) y)
  simp only [ryL,aT]
  exact ae
 rw [if_neg h9]
 refine GO.ent ((Ent.at (A:=allP rwP tb.rows) (Ent.a8 (f:=rwP) (ap hpn)))) ?_
 repeat first|refine aa ?_|intro _|refine cg ?_
 refine GPW.ef (Ef.a6 (fN tb.rows[p.1.toNat]!.give.ad tb.rows[p.1.toNat]!.give.l.length tb.rows[p.1.toNat]!.give.cap tb.rows[p.1.toNat]!.give.l 1 0 acc rfl hrB hga ab) rfl) ac ?_
 rintro _ _ ⟨ad2,cap2,rfl,rfl⟩
 repeat first|refine aa ?_|intro _|refine cg ?_
 obtain ⟨s,hs⟩:∃ s,s=cK acc tb.rows[p.1.toNat]!.give.l 1 tick:=⟨_,rfl⟩
 have hpost:=fun L=>ku (L:=L) lb S hS hc hg 0 0 tick (-1) 0 ad2 tb.rows[p.1.toNat]!.give.l.length cap2 (tb.rows[p.1.toNat]!.give.l.map (bV 1 0 acc)) (by rw [List.length_map]) (.inl rfl) (by rw [List.length_map];omega) (by unfold I64;omega) (MvPlain.mk _ _ _ _)
 rw [jh,show cw 0 0 tick (-1) 0 (tb.rows[p.1.toNat]!.give.l.map (mkMv 1 0 acc))=s from hs.symm] at hpost
 rw [← hs]
 refine GPW.ef (Ef.a6 (Tri.pre (hpost _) ae) rfl) ac ?_
 rintro _ _ ⟨rfl,rfl⟩
 by_cases h10:(tryM S s).1=0
 case neg =>
  rw [if_pos h10,jK h10]
  repeat first|refine aa ?_|intro _|refine cg ?_
  exact KX.a6 ai (Ent.trans ae hyc) ⟨rfl,rfl⟩
 rw [if_neg (fun h=>h h10)]
 repeat first|refine aa ?_|intro _|refine cg ?_
 refine KX.a6 ai ?_ ⟨rfl,rfl⟩
 refine Ent.trans ?_ (ed (yb:=yb) (lb:=lb) (Y:=⟨seed,jobs,tick,(lN:Int)+1⟩) (L:=aW lb (aI S s)::L) y)
 simp only [ryL,aT]
 exact ae
theorem zx {L:List HP} (yb lb:Nat) (Y:YardM) (hY:Y.Ok) (S:LedM) (hS:S.Ok) (hg:CatGood S.cat) (hc:S.cat.Ok) (acc table tick:Int) :
  Tri Tryz.prog 87 #[.pointer (some ⟨yb,0,none⟩),.int .i64 acc,.int .i64 table,.int .i64 tick] (cZ yb lb Y::aW lb S::L) (fun v L'=>v=.tuple #[.int .i64 (bW S Y acc table tick).1.1,.int .i64 (bW S Y acc table tick).1.2.1,.int .i64 (bW S Y acc table tick).1.2.2]∧L' = cZ yb lb (bW S Y acc table tick).2.2::aW lb (bW S Y acc table tick).2.1::L):=by
 obtain ⟨seed,jobs,tk,lo⟩:=Y
 obtain ⟨n,rfl⟩:∃ n:Nat,lo=(n:Int):=⟨lo.toNat,by have:0≤lo:=hY.loots.1;omega⟩
 exact wr yb lb seed jobs tk n hY S hS hg hc acc table tick
end
end Go.Proofs.YtfmgkkofledkbaaGreatDoor
