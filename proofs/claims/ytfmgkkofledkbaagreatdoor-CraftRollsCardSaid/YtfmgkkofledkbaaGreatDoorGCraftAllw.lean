/- Lemmas and contracts of functions, in the order: B5, B6. -/
import Derived.Test.YtfmgkkofledkbaaGreatDoorGCraftAlls
set_option linter.all false
namespace Go.Proofs.YtfmgkkofledkbaaGreatDoor
open Go.V
attribute [local irreducible] tryM cL gbS da dc dg
structure JobStep (S:LedM) (Y:YardM) (o:OpM) (js:List JobM):Prop where
 out:js=Y.jobs∨(∃ j,js=Y.jobs++[j]∧j.done=false∧j.won=0∧j.lost=0∧j.beg=begM Y.jobs (aG Y.jobs o.acc) o.tick∧j.fin=j.beg+S.cat.rules[j.rule.toNat]!.time∧dG S.cat.rules j.rule false)∨(∃ k,k<Y.jobs.length∧Y.jobs[k]!.done=false∧js=Y.jobs.set k (finJ Y.jobs[k]!))∨(∃ ids,IsDue Y.jobs o.tick ids∧js=(ids.foldl (endM o.tick) (S,{ Y with tick:=o.tick })).2.jobs)
theorem AQ (S:LedM) (Y:YardM) (acc table tick:Int):(bW S Y acc table tick).2.2.jobs=Y.jobs:=by
 by_cases h1:aM acc∧aV Y.tick S.now tick
 case neg=>rw [fm h1]
 by_cases h2:0≤table∧table<S.cat.tables.length
 case neg=>rw [eH h1.1 h1.2 h2]
 obtain ⟨p,hp⟩:∃ p,p=dg (dc Y.seed Y.loots) (S.cat.tables[table.toNat]!.rows.map (·.weight)) 0:=⟨_,rfl⟩
 rw [fO h1.1 h1.2 h2 rfl rfl hp]
 clear hp
 generalize S.cat.tables[table.toNat]!.rows[p.1.toNat]!.give=gv
 by_cases h3:p.2.1=0
 case neg=>rw [if_pos h3]
 rw [if_neg (fun q=>q h3)]
 by_cases h4:gv.length=0
 case pos=>rw [if_pos h4]
 rw [if_neg h4]
 by_cases h5:(tryM S (cK acc gv 1 tick)).1=0
 case neg=>rw [if_pos h5]
 rw [if_neg (fun q=>q h5)]
theorem vE (S:LedM) (Y:YardM) (o:OpM):JobStep S Y o (doM S Y o).2.2.jobs:=by
 constructor
 by_cases k0:o.kind=0
 ·unfold doM
  rw [if_pos k0]
  rcases eF S Y o.acc o.b o.a o.c o.tick with ⟨e,_⟩|⟨_,_,_,hr,_,e⟩
  ·rw [e]
   exact .inl rfl
  ·rw [e]
   exact .inr (.inl ⟨_,rfl,rfl,rfl,rfl,rfl,rfl,hr⟩)
 by_cases k1:o.kind=1
 ·unfold doM
  rw [if_neg k0,if_pos k1]
  unfold ba
  split
  ·exact .inl rfl
  ·split
   ·exact .inl rfl
   ·rename_i h2
    have h2':=Classical.not_not.1 h2
    split
    ·exact .inl rfl
    ·split
     ·exact .inl rfl
     ·exact .inr (.inr (.inl ⟨o.a.toNat,ab,h2'.2.2,rfl⟩))
 by_cases k2:o.kind=2
 ·unfold doM
  rw [if_neg k0,if_neg k1,if_pos k2]
  by_cases ht:aV Y.tick S.now o.tick
  ·obtain ⟨ids,hids⟩:=eR Y.jobs o.tick
   refine .inr (.inr (.inr ⟨ids,hids,?_⟩))
   rw [ga ht hids,jq]
  ·rw [eA ht]
   exact .inl rfl
 by_cases k3:o.kind=3
 ·unfold doM
  rw [if_neg k0,if_neg k1,if_neg k2,if_pos k3]
  unfold bI
  split
  ·exact .inl rfl
  ·split
   ·exact .inl rfl
   ·dsimp only
    split
    ·exact .inl rfl
    ·exact .inl rfl
 by_cases k4:o.kind=4
 ·unfold doM
  rw [if_neg k0,if_neg k1,if_neg k2,if_neg k3,if_pos k4]
  exact .inl (AQ ..)
 ·unfold doM
  rw [if_neg k0,if_neg k1,if_neg k2,if_neg k3,if_neg k4]
  exact .inl rfl
def wonJ (rs:List RuM) (seed:List Int) (j:JobM):Int:=da seed j.id j.times rs[j.rule.toNat]!.chance rs[j.rule.toNat]!.of_
def RollJ (rs:List RuM) (seed:List Int) (j:JobM):Prop:=(j.done=false→j.won=0∧j.lost=0)∧(j.won=0∨j.won=wonJ rs seed j)∧(j.lost=0∨j.lost=j.times - wonJ rs seed j)
def RollI (rs:List RuM) (seed:List Int) (js:List JobM):Prop:=∀ k,k<js.length→RollJ rs seed js[k]!
theorem RollI.set {rs:List RuM} {seed:List Int} {js:List JobM} (h:RollI rs seed js) {k:Nat} {j:JobM} (hj:k<js.length→RollJ rs seed j):RollI rs seed (js.set k j):=by
 intro i hi
 rw [List.length_set] at hi
 rw [dj hi]
 by_cases e:i=k
 ·rw [if_pos e]
  exact hj (e▸hi)
 ·rw [if_neg e]
  exact h i hi
theorem RollJ.fin {rs:List RuM} {seed:List Int} {j:JobM} (h:RollJ rs seed j) (hd:j.done=false):RollJ rs seed (finJ j):=by
 obtain ⟨h1,h2⟩:=h.1 hd
 exact ⟨fun q=>(by cases q),.inl h1,.inl h2⟩
theorem sy (S:LedM) (j:JobM) (times:Int) (take give:List (Int×Int)) (rule tick:Int):(dH S j times take give rule tick).1=0∨(dH S j times take give rule tick).1=times:=by
 unfold dH
 dsimp only
 split
 ·exact .inr rfl
 ·exact .inl rfl
theorem RollJ.end {S:LedM} {seed:List Int} {j:JobM} {tick:Int}:RollJ S.cat.rules seed (endJ S seed j tick).2:=by
 refine ⟨fun q=>(by cases q),?_,?_⟩
 ·exact sy ..
 ·exact sy ..
theorem RollI.a6 {rs:List RuM} {seed:List Int} {tick:Int}:∀ (ids:List Nat) (p:LedM×YardM),p.1.Ok→p.1.cat.rules=rs→p.2.seed=seed→RollI rs seed p.2.jobs→RollI rs seed (ids.foldl (endM tick) p).2.jobs
 | [],_,_,_,_,h=>h
 | k::ids,p,h1,h2,h3,h=>by
  obtain ⟨h4,h5⟩:=yN h1 p.2.seed p.2.jobs[k]! tick
  refine RollI.a6 ids (endM tick p k) h4 ?_ h3 ?_
  ·show (endJ p.1 p.2.seed p.2.jobs[k]! tick).1.cat.rules=rs
   rw [h5]
   exact h2
  ·refine RollI.set h (fun _=>?_)
   rw [← h2,h3]
   exact RollJ.end
theorem RollI.step {n:Nat} {S:LedM} {Y:YardM} (hI:RunI n S Y) (h:RollI S.cat.rules Y.seed Y.jobs) (o:OpM):RollI S.cat.rules Y.seed (doM S Y o).2.2.jobs:=by
 rcases (vE S Y o).out with e|⟨j,e,hd,hw,hl,_⟩|⟨k,hk,hd,e⟩|⟨ids,hids,e⟩
 ·rw [e]
  exact h
 ·rw [e]
  intro k hk
  rw [List.length_append,List.length_singleton] at hk
  rw [fa hk]
  by_cases e2:k=Y.jobs.length
  ·rw [if_pos e2]
   exact ⟨fun _=>⟨hw,hl⟩,.inl hw,.inl hl⟩
  ·rw [if_neg e2]
   exact h k ab
 ·rw [e]
  exact h.set (fun _=>(h k hk).fin hd)
 ·rw [e]
  exact RollI.a6 ids (S,{ Y with tick:=o.tick }) hI.sok rfl rfl h
def FinI (n:Nat) (js:List JobM):Prop:=∀ k,k<js.length→js[k]!.fin≤90+10*(n:Int)
theorem yT {js:List JobM} {B:Int} (ids:List Int) (t:Int) (h1:t≤B) (h2:∀ k∈ids,js[k.toNat]!.fin≤B):begM js ids t≤B:=by
 induction ids generalizing t with
 | nil=>exact h1
 | cons i ids ih =>
  have e:begM js (i::ids) t=begM js ids (max t js[i.toNat]!.fin):=rfl
  rw [e]
  have:=h2 i List.mem_cons_self
  exact ih _ ab (fun k hk=>h2 k (List.mem_cons_of_mem _ hk))
theorem FinI.set {n:Nat} {js:List JobM} (h:FinI n js) {k:Nat} {j:JobM} (hj:k<js.length→j.fin=js[k]!.fin):FinI n (js.set k j):=by
 intro i hi
 rw [List.length_set] at hi
 rw [dj hi]
 by_cases e:i=k
 ·rw [if_pos e,hj (e▸hi)]
  exact h k (e▸hi)
 ·rw [if_neg e]
  exact h i hi
theorem FinI.a6 {n:Nat} {tick:Int}:∀ (ids:List Nat) (p:LedM×YardM),FinI n p.2.jobs→FinI n (ids.foldl (endM tick) p).2.jobs
 | [],_,h=>h
 | k::ids,p,h=>FinI.a6 ids (endM tick p k) (h.set (fun _=>(jO _ _ _ _).1.fin))
theorem FinI.mono {n:Nat} {js:List JobM} (h:FinI n js):FinI (n+1) js:=fun k hk=>by have:=h k hk;omega
theorem FinI.step {n:Nat} {S:LedM} {Y:YardM} (h:FinI n Y.jobs) (ht:∀ r∈S.cat.rules,r.time≤10) {o:OpM} (ho:OpOk o):FinI (n+1) (doM S Y o).2.2.jobs:=by
 rcases (vE S Y o).out with e|⟨j,e,_,_,_,hb,hf,hr⟩|⟨k,hk,hd,e⟩|⟨ids,hids,e⟩
 ·rw [e]
  exact h.mono
 ·rw [e]
  intro k hk
  rw [List.length_append,List.length_singleton] at hk
  rw [fa hk]
  by_cases e2:k=Y.jobs.length
  ·rw [if_pos e2,hf,hb]
   have h1:=ht _ (ap (show j.rule.toNat<S.cat.rules.length by have:=hr.1;have:=hr.2.1;omega))
   have h2:=yT (js:=Y.jobs) (B:=90+10*(n:Int)) (aG Y.jobs o.acc) o.tick (by have:=ho.tick;omega) (fun q hq=>by have:=fE hq;exact h _ ab)
   omega
  ·rw [if_neg e2]
   have:=h k ab
   omega
 ·rw [e]
  exact (h.set (j:=finJ Y.jobs[k]!) (fun _=>rfl)).mono
 ·rw [e]
  exact (FinI.a6 ids (S,{ Y with tick:=o.tick }) h).mono
end Go.Proofs.YtfmgkkofledkbaaGreatDoor
namespace Go.Proofs.YtfmgkkofledkbaaGreatDoor
open Go.V
attribute [local irreducible] tryM gbM dH da dc dg endJ
def NowB (B:Int→Prop) (S:LedM) (Y:YardM):Prop:=B S.now∧B Y.tick
theorem gZ {B:Int→Prop} {S:LedM} {s:StM} (h:B S.now) (hs:B s.tick):B (aI S s).now:=by
 unfold aI
 split
 ·have e:(ei S s).now=s.tick:=by
   unfold LedM.now ei
   simp [StM.at]
  rw [e]
  exact hs
 ·exact h
section
attribute [local irreducible] LedM.now aI
theorem DR {B:Int→Prop} {acc tick hold:Int} {S:LedM} {i:Int} (h:B S.now) (ht:B tick):B (gbS acc tick hold S i).now:=by
 unfold gbS
 split
 ·exact h
 ·exact gZ h ht
theorem pJ {B:Int→Prop} {acc tick hold:Int} {S:LedM} (h:B S.now) (ht:B tick):∀ k,B (gbM acc tick hold S k).now
 | 0=>by
  unfold gbM
  exact h
 | k+1=>by
  have ih:=pJ (acc:=acc) (hold:=hold) h ht k
  have e:gbM acc tick hold S (k+1)=gbS acc tick hold (gbM acc tick hold S k) (k:Int):=by
   unfold gbM
   rw [List.range_succ,List.foldl_append]
   rfl
  rw [e]
  exact DR ih ht
theorem qF {B:Int→Prop} {S:LedM} {j:JobM} {times:Int} {take give:List (Int×Int)} {rule tick:Int} (h:B S.now) (ht:B tick):B (dH S j times take give rule tick).2.now:=by
 unfold dH
 exact gZ h ht
theorem CQ {B:Int→Prop} {S:LedM} {seed:List Int} {j:JobM} {tick:Int} (h:B S.now) (ht:B tick):B (endJ S seed j tick).1.now:=by
 unfold endJ
 exact pJ (qF (qF h ht) ht) ht _
theorem qX {B:Int→Prop} {tick:Int} (ht:B tick):∀ (ids:List Nat) (p:LedM×YardM),NowB B p.1 p.2→NowB B (ids.foldl (endM tick) p).1 (ids.foldl (endM tick) p).2
 | [],_,h=>h
 | k::ids,p,h=>qX ht ids (endM tick p k) ⟨CQ h.1 ht,h.2⟩
theorem NowB.adv {B:Int→Prop} {S:LedM} {Y:YardM} (h:NowB B S Y) {tick:Int} (ht:B tick):NowB B (advM S Y tick).2.1 (advM S Y tick).2.2:=by
 by_cases h1:aV Y.tick S.now tick
 ·obtain ⟨ids,hids⟩:=eR Y.jobs tick
  rw [ga h1 hids,jq]
  exact qX ht ids (S,{ Y with tick:=tick }) ⟨h.1,ht⟩
 ·rw [eA h1]
  exact h
theorem NowB.start {B:Int→Prop} {S:LedM} {Y:YardM} (h:NowB B S Y) (acc level rule times:Int) {tick:Int} (ht:B tick):NowB B (bC S Y acc level rule times tick).2.1 (bC S Y acc level rule times tick).2.2:=by
 rcases eF S Y acc level rule times tick with ⟨e,_⟩|⟨_,_,_,_,_,e⟩
 ·rw [e]
  exact h
 ·rw [e]
  refine ⟨?_,ht⟩
  dsimp only
  split
  ·exact h.1
  ·exact gZ h.1 ht
theorem NowB.cancel {B:Int→Prop} {S:LedM} {Y:YardM} (h:NowB B S Y) (acc job:Int) {tick:Int} (ht:B tick):NowB B (ba S Y acc job tick).2.1 (ba S Y acc job tick).2.2:=by
 unfold ba
 split
 ·exact h
 ·split
  ·exact h
  ·split
   ·exact h
   ·split
    ·exact h
    ·exact ⟨pJ h.1 ht _,ht⟩
theorem NowB.spawn {B:Int→Prop} {S:LedM} {Y:YardM} (h:NowB B S Y) (acc rule times:Int) {tick:Int} (ht:B tick):NowB B (bI S Y acc rule times tick).2.1 (bI S Y acc rule times tick).2.2:=by
 unfold bI
 split
 ·exact h
 ·split
  ·exact h
  ·refine ⟨gZ h.1 ht,?_⟩
   dsimp only
   split
   ·exact ht
   ·exact h.2
theorem NowB.loot {B:Int→Prop} {S:LedM} {Y:YardM} (h:NowB B S Y) (acc table:Int) {tick:Int} (ht:B tick):NowB B (bW S Y acc table tick).2.1 (bW S Y acc table tick).2.2:=by
 by_cases h1:aM acc∧aV Y.tick S.now tick
 case neg =>
  rw [fm h1]
  exact h
 by_cases h2:0≤table∧table<S.cat.tables.length
 case neg =>
  rw [eH h1.1 h1.2 h2]
  exact h
 obtain ⟨p,hp⟩:∃ p,p=dg (dc Y.seed Y.loots) (S.cat.tables[table.toNat]!.rows.map (·.weight)) 0:=⟨_,rfl⟩
 rw [fO h1.1 h1.2 h2 rfl rfl hp]
 clear hp
 generalize S.cat.tables[table.toNat]!.rows[p.1.toNat]!.give=gv
 by_cases h3:p.2.1=0
 case neg =>
  rw [if_pos h3]
  exact h
 rw [if_neg (fun q=>q h3)]
 by_cases h4:gv.length=0
 case pos =>
  rw [if_pos h4]
  exact ⟨h.1,ht⟩
 rw [if_neg h4]
 by_cases h5:(tryM S (cK acc gv 1 tick)).1=0
 case neg =>
  rw [if_pos h5]
  exact h
 rw [if_neg (fun q=>q h5)]
 exact ⟨gZ h.1 ht,ht⟩
attribute [local irreducible] bW advM bC ba bI
theorem NowB.step {B:Int→Prop} {S:LedM} {Y:YardM} (h:NowB B S Y) {o:OpM} (ht:B o.tick):NowB B (doM S Y o).2.1 (doM S Y o).2.2:=by
 unfold doM
 split
 ·exact h.start _ _ _ _ ht
 ·split
  ·exact h.cancel _ _ ht
  ·split
   ·exact h.adv ht
   ·split
    ·exact h.spawn _ _ _ ht
    ·split
     ·exact h.loot _ _ ht
     ·exact ⟨gZ h.1 ht,h.2⟩
end
theorem Eb {S:LedM} {Y:YardM} (hI:S.Ok) (hY:Y.Ok) (hR:RulesJ S Y.jobs) (o:OpM):(doM S Y o).2.2.seed=Y.seed:=by
 have hlo:∀ acc table tick,(bW S Y acc table tick).2.2.seed=Y.seed:=by
  intro acc table tick
  by_cases h1:aM acc∧aV Y.tick S.now tick
  case neg=>rw [fm h1]
  by_cases h2:0≤table∧table<S.cat.tables.length
  case neg=>rw [eH h1.1 h1.2 h2]
  obtain ⟨p,hp⟩:∃ p,p=dg (dc Y.seed Y.loots) (S.cat.tables[table.toNat]!.rows.map (·.weight)) 0:=⟨_,rfl⟩
  rw [fO h1.1 h1.2 h2 rfl rfl hp]
  clear hp
  generalize S.cat.tables[table.toNat]!.rows[p.1.toNat]!.give=gv
  by_cases h3:p.2.1=0
  case neg=>rw [if_pos h3]
  rw [if_neg (fun q=>q h3)]
  by_cases h4:gv.length=0
  case pos=>rw [if_pos h4]
  rw [if_neg h4]
  by_cases h5:(tryM S (cK acc gv 1 tick)).1=0
  case neg=>rw [if_pos h5]
  rw [if_neg (fun q=>q h5)]
 unfold doM
 split
 ·rcases eF S Y o.acc o.b o.a o.c o.tick with ⟨e,_⟩|⟨_,_,_,_,_,e⟩
  ·rw [e]
  ·rw [e]
 ·split
  ·unfold ba
   split
   ·rfl
   ·split
    ·rfl
    ·split
     ·rfl
     ·split
      ·rfl
      ·rfl
  ·split
   ·by_cases h1:aV Y.tick S.now o.tick
    ·obtain ⟨ids,hids⟩:=eR Y.jobs o.tick
     rw [ga h1 hids]
     exact (iy hI hY hR (fK hY h1) hids ids.length).seed
    ·rw [eA h1]
   ·split
    ·unfold bI
     split
     ·rfl
     ·split
      ·rfl
      ·dsimp only
       split
       ·rfl
       ·rfl
    ·split
     ·exact hlo ..
     ·rfl
structure RunR (n:Nat) (S:LedM) (Y:YardM) (sd:List Int):Prop where
 seed:Y.seed=sd
 roll:RollI S.cat.rules sd Y.jobs
 fin:FinI n Y.jobs
 now:NowB (fun t=>0≤t∧t≤90) S Y
attribute [local irreducible] doM
theorem nv {S:LedM} {Y:YardM} (h:RunI 0 S Y) (hr:RunR 0 S Y Y.seed) (hc:∀ r∈S.cat.rules,r.time≤10) {ops:List OpM} (hl:ops.length≤50) (ho:∀ o∈ops,OpOk o):∀ n,n≤ops.length→RunR n (runS S Y ops n).1 (runS S Y ops n).2 Y.seed
 | 0,_=>hr
 | n+1,hn=>by
  have hI:=fM h hl ho n ab
  have hcat:=gJ h hl ho n ab
  have ih:=nv h hr hc hl ho n ab
  rw [gc ab]
  generalize runS S Y ops n=q at hI hcat ih ⊢
  have hoo:=ho _ (ap (show n<ops.length by omega))
  refine ⟨?_,?_,?_,?_⟩
  ·rw [Eb hI.sok hI.yok hI.rul,ih.seed]
  ·have h1:=ih.roll
   have h2:=RollI.step hI (by rw [ih.seed];exact h1) ops[n]!
   rw [ih.seed] at h2
   rw [oA hI]
   exact h2
  ·exact ih.fin.step (by rw [hcat];exact hc) hoo
  ·exact ih.now.step hoo.tick
theorem De {n:Nat} {S:LedM} {Y:YardM} {sd:List Int} (hI:RunI n S Y) (h:RunR n S Y sd) (hn:n≤50):let p:=(advM S Y (S.now+1000)).2;p.1.Ok∧p.2.Ok∧p.2.jobs.length=Y.jobs.length∧p.2.seed=sd∧p.1.cat=S.cat∧RulesJ p.1 p.2.jobs∧RollI S.cat.rules sd p.2.jobs∧∀ k,k<p.2.jobs.length→p.2.jobs[k]!.done=true:=by
 dsimp only
 obtain ⟨⟨h0,hn1⟩,hn2,hn3⟩:=h.now
 have ht:aV Y.tick S.now (S.now+1000):=⟨ab,ab,ab⟩
 obtain ⟨ids,hids⟩:=eR Y.jobs (S.now+1000)
 have hA:=iy hI.sok hI.yok hI.rul (fK hI.yok ht) hids ids.length
 rw [List.drop_length] at hA
 have hroll:RollI S.cat.rules sd (advS S Y (S.now+1000) ids ids.length).2.jobs:=by
  rw [jq]
  exact RollI.a6 ids (S,{ Y with tick:=S.now+1000 }) hI.sok rfl h.seed h.roll
 have hfin:FinI n (advS S Y (S.now+1000) ids ids.length).2.jobs:=by
  rw [jq]
  exact FinI.a6 ids (S,{ Y with tick:=S.now+1000 }) h.fin
 rw [ga ht hids]
 refine ⟨hA.ok,hA.yok,hA.len,hA.seed.trans h.seed,hA.cat,hA.rul.cat hA.cat,hroll,fun k hk=>?_⟩
 have hnd:¬dueP (advS S Y (S.now+1000) ids ids.length).2.jobs (S.now+1000) k:=fun hd=>by
  have:=(hA.due.mem k).2 ⟨hk,hd⟩
  cases this
 have hf:=hfin k hk
 cases hd:(advS S Y (S.now+1000) ids ids.length).2.jobs[k]!.done with
 | true=>rfl
 | false=>exact absurd ⟨hd,ab⟩ hnd
theorem RollJ.all {rs:List RuM} {sd:List Int} {j:JobM} (h:RollJ rs sd j) (ht:1≤j.times) (e:j.won+j.lost=j.times):j.won=wonJ rs sd j:=by
 rcases h.2.1 with h1|h1<;>rcases h.2.2 with h2|h2<;>omega
end Go.Proofs.YtfmgkkofledkbaaGreatDoor
