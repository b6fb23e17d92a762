/- Lemmas and contracts of functions, in the order: B3, O1, O2, O3, B4. -/
import Derived.Test.YtfmgkkofledkbaaGreatDoorGCraftAllq
import Derived.Test.YtfmgkkofledkbaaGreatDoorGCraftAllp
import Derived.Test.YtfmgkkofledkbaaGreatDoorGCraftAllj
import Derived.Test.YtfmgkkofledkbaaGreatDoorGCraftAllr
import Derived.Test.YtfmgkkofledkbaaGreatDoorGCraftAllb
import Derived.Test.YtfmgkkofledkbaaGreatDoorGCraftAlli
set_option linter.all false
set_option maxHeartbeats 16000000
namespace Go.Proofs.YtfmgkkofledkbaaGreatDoor
open Go.V
attribute [local irreducible] tryM aI cL gbM da dH dc dg
structure OpM where
 kind:Int
 acc:Int
 a:Int
 b:Int
 c:Int
 tick:Int
 deriving Inhabited,DecidableEq
structure ResM where
 a:Int
 b:Int
 l:List Int
 code:Int
def fB (o:OpM):StM:=cw 2 9 o.tick (-1) 0 [⟨o.acc,5,o.b,max 1 (min o.c 9),[]⟩]
noncomputable def doM (S:LedM) (Y:YardM) (o:OpM):ResM×LedM×YardM :=
 if o.kind=0 then (⟨(bC S Y o.acc o.b o.a o.c o.tick).1.1,0,[],(bC S Y o.acc o.b o.a o.c o.tick).1.2⟩,(bC S Y o.acc o.b o.a o.c o.tick).2)
 else if o.kind=1 then (⟨0,0,[],(ba S Y o.acc o.a o.tick).1⟩,(ba S Y o.acc o.a o.tick).2)
 else if o.kind=2 then (⟨0,0,(advM S Y o.tick).1,0⟩,(advM S Y o.tick).2)
 else if o.kind=3 then (⟨(bI S Y o.acc o.a o.c o.tick).1.1,0,[],(bI S Y o.acc o.a o.c o.tick).1.2⟩,(bI S Y o.acc o.a o.c o.tick).2)
 else if o.kind=4 then (⟨(bW S Y o.acc (o.a / 4) o.tick).1.1,(bW S Y o.acc (o.a / 4) o.tick).1.2.1,[],(bW S Y o.acc (o.a / 4) o.tick).1.2.2⟩,(bW S Y o.acc (o.a / 4) o.tick).2)
 else (⟨cL S (fB o),0,[],(tryM S (fB o)).1⟩,aI S (fB o),Y)
structure OpOk (o:OpM):Prop where
 kind:0≤o.kind∧o.kind≤5
 acc : -1≤o.acc∧o.acc≤1048576
 a:0≤o.a∧o.a≤5
 b:0≤o.b∧o.b≤4
 c:I64 o.c
 tick:0≤o.tick∧o.tick≤90
structure RunI (n:Nat) (S:LedM) (Y:YardM):Prop where
 sok:S.Ok
 good:CatGood S.cat
 cok:S.cat.Ok
 yok:Y.Ok
 len:Y.jobs.length≤n
 loots:Y.loots≤n
 rul:RulesJ S Y.jobs
theorem RulesJ.cat {S S' : LedM} {js:List JobM} (h:RulesJ S js) (e:S'.cat=S.cat):RulesJ S' js:=fun k hk=>by rw [e];exact h k hk
theorem RunI.led {n:Nat} {S S' : LedM} {Y:YardM} (h:RunI n S Y) (h1:S'.Ok) (h2:S'.cat=S.cat):RunI n S' Y:=⟨h1,by rw [h2];exact h.good,by rw [h2];exact h.cok,h.yok,h.len,h.loots,h.rul.cat h2⟩
theorem RunI.mono {n:Nat} {S:LedM} {Y:YardM} (h:RunI n S Y):RunI (n+1) S Y:=⟨h.sok,h.good,h.cok,h.yok,by have:=h.len;omega,by have:=h.loots;omega,h.rul⟩
theorem RunI.tk {n:Nat} {S:LedM} {Y:YardM} (h:RunI n S Y) {t:Int} (ht:0≤t∧t≤1099511627776):RunI n S { Y with tick:=t }:=⟨h.sok,h.good,h.cok,h.yok.at_tick ht,h.len,h.loots,h.rul⟩
theorem fK {Y:YardM} (hY:Y.Ok) {now tick:Int} (h:aV Y.tick now tick):0≤tick∧tick≤1099511627776:=by
 have:=hY.tick
 unfold aV at h
 omega
theorem eF (S:LedM) (Y:YardM) (acc level rule times tick:Int):((bC S Y acc level rule times tick).2=(S,Y)∧(bC S Y acc level rule times tick).1.2≠0)∨(aM acc∧aV Y.tick S.now tick∧cn times∧dG S.cat.rules rule false∧(S.cat.rules[rule.toNat]!.take.length=0∨(tryM S (eE acc S.cat.rules[rule.toNat]!.take times tick (536870912+Y.jobs.length))).1=0)∧bC S Y acc level rule times tick=(((Y.jobs.length:Int),0),(if S.cat.rules[rule.toNat]!.take.length=0 then S else aI S (eE acc S.cat.rules[rule.toNat]!.take times tick (536870912+Y.jobs.length))),{ Y with jobs:=Y.jobs++[⟨Y.jobs.length,acc,536870912+Y.jobs.length,rule,times,begM Y.jobs (aG Y.jobs acc) tick,begM Y.jobs (aG Y.jobs acc) tick+S.cat.rules[rule.toNat]!.time,false,0,0⟩],tick:=tick })):=by
 by_cases h:aM acc∧aV Y.tick S.now tick∧cn times
 case neg =>
  left
  unfold bC
  rw [if_pos h]
  exact ⟨rfl,by show (1:Int)≠0;omega⟩
 by_cases h2:dG S.cat.rules rule false
 case neg =>
  left
  unfold bC
  rw [if_neg (fun q=>q h),if_pos h2]
  exact ⟨rfl,by show (6:Int)≠0;omega⟩
 rw [iD h h2 rfl]
 by_cases h3:level<S.cat.rules[rule.toNat]!.level
 ·left
  rw [if_pos h3]
  exact ⟨rfl,by show (12:Int)≠0;omega⟩
 rw [if_neg h3]
 by_cases h4:S.cat.rules[rule.toNat]!.take.length≠0∧(tryM S (eE acc S.cat.rules[rule.toNat]!.take times tick (536870912+Y.jobs.length))).1≠0
 ·left
  rw [if_pos h4]
  exact ⟨rfl,h4.2⟩
 right
 rw [if_neg h4]
 refine ⟨h.1,h.2.1,h.2.2,h2,?_,rfl⟩
 by_cases h5:S.cat.rules[rule.toNat]!.take.length=0
 ·exact .inl h5
 ·right
  exact Classical.byContradiction (fun q=>h4 ⟨h5,q⟩)
theorem fa {α:Type} [Inhabited α] {l:List α} {a:α} {i:Nat} (h:i<l.length+1):(l++[a])[i]! = if i=l.length then a else l[i]!:=by
 by_cases e:i=l.length
 ·rw [if_pos e,e,getElem!_of (by simp)]
  simp
 ·have h1:i<l.length:=ab
  rw [if_neg e,getElem!_of (by simp;omega),getElem!_of h1,List.getElem_append_left h1]
theorem xM (js:List JobM) (a:Int):∀ k∈aG js a,0≤k∧k<js.length:=fun k hk=>fE hk
theorem RunI.start {n:Nat} {S:LedM} {Y:YardM} (h:RunI n S Y) (hn:n<60) (acc level rule times tick:Int) (hr64:I64 rule):RunI (n+1) (bC S Y acc level rule times tick).2.1 (bC S Y acc level rule times tick).2.2:=by
 rcases eF S Y acc level rule times tick with ⟨e,_⟩|⟨h1,h2,h3,h4,_,e⟩
 ·rw [e]
  exact h.mono
 rw [e]
 dsimp only
 have hS:RunI n (if S.cat.rules[rule.toNat]!.take.length=0 then S else aI S (eE acc S.cat.rules[rule.toNat]!.take times tick (536870912+Y.jobs.length))) Y:=by
  split
  ·exact h
  ·exact h.led (fj h.sok dF) (ej _ _)
 have hcat:(if S.cat.rules[rule.toNat]!.take.length=0 then S else aI S (eE acc S.cat.rules[rule.toNat]!.take times tick (536870912+Y.jobs.length))).cat=S.cat:=by
  split
  ·rfl
  ·exact ej _ _
 have ht:=fK h.yok h2
 have hrg:=h.good.ru _ (ap (show rule.toNat<S.cat.rules.length by have:=h4.1;have:=h4.2.1;omega))
 have hrt:=hrg.num.2.1
 obtain ⟨tm,htm⟩:∃ tm,S.cat.rules[rule.toNat]!.time=tm:=⟨_,rfl⟩
 rw [htm] at hrt
 have hb:=oB (js:=Y.jobs) (B:=1099511627776+1000000*(Y.jobs.length:Int)) (fun k hk=>by have:=(h.yok.num k hk).2.2.1.2.2;omega) (aG Y.jobs acc) tick (xM _ _) ht.1 ab
 obtain ⟨bg,hbg⟩:∃ bg,begM Y.jobs (aG Y.jobs acc) tick=bg:=⟨_,rfl⟩
 rw [hbg] at hb
 rw [htm,hbg]
 refine ⟨hS.sok,hS.good,hS.cok,?_,?_,by have:=h.loots;dsimp only;omega,?_⟩
 ·have hl:=h.len
  refine ⟨h.yok.seed,?_,h.yok.loots,ht,?_,?_⟩
  ·show (Y.jobs++[_]).length≤60
   rw [List.length_append,List.length_singleton]
   omega
  ·intro k hk
   have hk' : k<Y.jobs.length+1:=by
    have hk2:=hk
    dsimp only at hk2
    rw [List.length_append,List.length_singleton] at hk2
    exact hk2
   show ((Y.jobs++[_])[k]!).id=k∧((Y.jobs++[_])[k]!).hold=536870912+k
   rw [fa hk']
   by_cases e2:k=Y.jobs.length
   ·rw [if_pos e2,e2]
    exact ⟨rfl,rfl⟩
   ·rw [if_neg e2]
    exact h.yok.id k ab
  ·intro k hk
   have hk' : k<Y.jobs.length+1:=by
    have hk2:=hk
    dsimp only at hk2
    rw [List.length_append,List.length_singleton] at hk2
    exact hk2
   show aM ((Y.jobs++[_])[k]!).acc∧cn ((Y.jobs++[_])[k]!).times∧(0≤((Y.jobs++[_])[k]!).beg∧((Y.jobs++[_])[k]!).beg≤((Y.jobs++[_])[k]!).fin∧((Y.jobs++[_])[k]!).fin≤1099511627776+1000000*(k+1))∧I64 ((Y.jobs++[_])[k]!).rule
   rw [fa hk']
   by_cases e2:k=Y.jobs.length
   ·rw [if_pos e2,e2]
    refine ⟨h1,h3,?_,hr64⟩
    dsimp only
    omega
   ·rw [if_neg e2]
    exact h.yok.num k ab
 ·show (Y.jobs++[_]).length≤n+1
  rw [List.length_append,List.length_singleton]
  have:=h.len
  omega
 ·refine RulesJ.cat (S:=S) ?_ hcat
  intro k hk
  have hk' : k<Y.jobs.length+1:=by
   have hk2:=hk
   rw [List.length_append,List.length_singleton] at hk2
   exact hk2
  show dG S.cat.rules ((Y.jobs++[_])[k]!).rule false
  rw [fa hk']
  by_cases e2:k=Y.jobs.length
  ·rw [if_pos e2]
   exact h4
  ·rw [if_neg e2]
   exact h.rul k ab
theorem nQ (j:JobM):SameJ j (finJ j):=⟨rfl,rfl,rfl,rfl,rfl,rfl,rfl⟩
theorem RunI.cancel {n:Nat} {S:LedM} {Y:YardM} (h:RunI n S Y) (acc job tick:Int):RunI n (ba S Y acc job tick).2.1 (ba S Y acc job tick).2.2:=by
 unfold ba
 split
 ·exact h
 ·rename_i h1
  split
  ·exact h
  ·rename_i h2
   split
   ·exact h
   ·split
    ·exact h
    ·have h1':=Classical.not_not.1 h1
     have h2':=Classical.not_not.1 h2
     have ht:=fK h.yok h1'.2
     have hk:job.toNat<Y.jobs.length:=ab
     obtain ⟨g1,g2⟩:=lH (acc:=acc) (tick:=tick) (hold:=Y.jobs[job.toNat]!.hold) h.sok S.cat.items.length
     refine RunI.led (S:=S) ?_ g1 g2
     refine ⟨h.sok,h.good,h.cok,?_,?_,h.loots,?_⟩
     ·exact (h.yok.at_tick ht).set (Y:={ Y with tick:=tick }) hk (nQ _)
     ·show (Y.jobs.set job.toNat _).length≤n
      rw [List.length_set]
      exact h.len
     ·exact h.rul.set (nQ _).rule
theorem RunI.adv {n:Nat} {S:LedM} {Y:YardM} (h:RunI n S Y) (tick:Int):RunI n (advM S Y tick).2.1 (advM S Y tick).2.2:=by
 by_cases h1:aV Y.tick S.now tick
 ·obtain ⟨ids,hids⟩:=eR Y.jobs tick
  rw [ga h1 hids]
  have hi:=iy h.sok h.yok h.rul (fK h.yok h1) hids ids.length
  have hl:=h.len
  have hlo:=h.loots
  refine ⟨hi.ok,by rw [hi.cat];exact h.good,by rw [hi.cat];exact h.cok,hi.yok,by rw [hi.len];exact hl,by rw [hi.loots];exact hlo,hi.rul.cat hi.cat⟩
 ·rw [eA h1]
  exact h
theorem RunI.spawn {n:Nat} {S:LedM} {Y:YardM} (h:RunI n S Y) (acc rule times tick:Int):RunI n (bI S Y acc rule times tick).2.1 (bI S Y acc rule times tick).2.2:=by
 unfold bI
 split
 ·exact h
 ·rename_i h1
  split
  ·exact h
  ·have h1':=Classical.not_not.1 h1
   dsimp only
   split
   ·exact (h.tk (fK h.yok h1'.2.1)).led (fj h.sok dF) (ej _ _)
   ·exact h.led (fj h.sok dF) (ej _ _)
theorem RunI.loot {n:Nat} {S:LedM} {Y:YardM} (h:RunI n S Y) (hn:n<60) (acc table tick:Int):RunI (n+1) (bW S Y acc table tick).2.1 (bW S Y acc table tick).2.2:=by
 have hup:∀ S' : LedM,S'.Ok→S'.cat=S.cat→aV Y.tick S.now tick→RunI (n+1) S' { Y with tick:=tick,loots:=Y.loots+1 }:=fun S' h1 h2 h3=>by
  have hlo:=h.loots
  have hlo2:=h.yok.loots
  have hl:=h.len
  refine ⟨h1,by rw [h2];exact h.good,by rw [h2];exact h.cok,⟨h.yok.seed,h.yok.len,?_,fK h.yok h3,h.yok.id,h.yok.num⟩,?_,?_,h.rul.cat h2⟩<;>dsimp only<;>omega
 by_cases h1:aM acc∧aV Y.tick S.now tick
 case neg =>
  rw [fm h1]
  exact h.mono
 by_cases h2:0≤table∧table<S.cat.tables.length
 case neg =>
  rw [eH h1.1 h1.2 h2]
  exact h.mono
 obtain ⟨p,hp⟩:∃ p,p=dg (dc Y.seed Y.loots) (S.cat.tables[table.toNat]!.rows.map (·.weight)) 0:=⟨_,rfl⟩
 rw [fO h1.1 h1.2 h2 rfl rfl hp]
 clear hp
 generalize S.cat.tables[table.toNat]!.rows[p.1.toNat]!.give=gv
 by_cases h3:p.2.1=0
 case neg =>
  rw [if_pos h3]
  exact h.mono
 rw [if_neg (fun q=>q h3)]
 by_cases h4:gv.length=0
 case pos =>
  rw [if_pos h4]
  exact hup S h.sok rfl h1.2
 rw [if_neg h4]
 by_cases h5:(tryM S (cK acc gv 1 tick)).1=0
 case neg =>
  rw [if_pos h5]
  exact h.mono
 rw [if_neg (fun q=>q h5)]
 exact hup _ (fj h.sok dF) (ej _ _) h1.2
attribute [local irreducible] bW advM bC ba bI
theorem RunI.step {n:Nat} {S:LedM} {Y:YardM} (h:RunI n S Y) (hn:n<60) {o:OpM} (ho:OpOk o):RunI (n+1) (doM S Y o).2.1 (doM S Y o).2.2:=by
 have ha:=ho.a
 unfold doM
 split
 ·exact h.start hn _ _ _ _ _ (by unfold I64;omega)
 ·split
  ·exact (h.cancel _ _ _).mono
  ·split
   ·exact (h.adv _).mono
   ·split
    ·exact (h.spawn _ _ _ _).mono
    ·split
     ·exact h.loot hn _ _ _
     ·exact (h.led (fj h.sok dF) (ej _ _)).mono
noncomputable def runS (S:LedM) (Y:YardM) (ops:List OpM) (n:Nat):LedM×YardM:=(ops.take n).foldl (fun p o=>(doM p.1 p.2 o).2) (S,Y)
theorem so (S:LedM) (Y:YardM) (ops:List OpM):runS S Y ops 0=(S,Y):=rfl
theorem gc {S:LedM} {Y:YardM} {ops:List OpM} {n:Nat} (h:n<ops.length):runS S Y ops (n+1)=(doM (runS S Y ops n).1 (runS S Y ops n).2 ops[n]!).2:=by
 unfold runS
 rw [List.take_succ_eq_append_getElem h,List.foldl_append,getElem!_of h]
 rfl
theorem fM {S:LedM} {Y:YardM} (h:RunI 0 S Y) {ops:List OpM} (hl:ops.length≤50) (ho:∀ o∈ops,OpOk o):∀ n,n≤ops.length→RunI n (runS S Y ops n).1 (runS S Y ops n).2
 | 0,_=>h
 | n+1,hn=>by
  rw [gc ab]
  exact (fM h hl ho n ab).step ab (ho _ (ap ab))
end Go.Proofs.YtfmgkkofledkbaaGreatDoor
namespace Go.Proofs.YtfmgkkofledkbaaGreatDoor
open Go.V
attribute [local irreducible] G GO GP GPW GPK Ev Ef EfR Ent CB GB V.Enters
section
def cJ (o:OpM):List Value:=[.int .i64 o.kind,.int .i64 o.acc,.int .i64 o.a,.int .i64 o.b,.int .i64 o.c,.int .i64 o.tick]
theorem CT (t:OpM):∀ u∈cJ t,u.oneCell' = true:=by simp [cJ,Value.oneCell']
abbrev tOp:Nat:=90
theorem pX {L:List HP} (o:OpM) (hc:I64 o.c) :
  Tri Tryz.prog 82 #[.agg (cJ o).toArray] L (fun v L'=>∃ b,v=.agg #[.int .i64 0,.int .i64 2,.int .i64 9,.int .i64 o.tick,.int .i64 (-1),.int .i64 0,.slice (some ⟨b,0,none⟩) 1 1]∧L' = osl aJ 5 tMv (some ⟨b,0,none⟩) 1 [⟨⟨o.acc,5,o.b,max 1 (min o.c 9),[]⟩,none,0⟩]::L):=by
 refine Tri.body (args:=[.agg (cJ o).toArray]) 16 en82 Tryz.func82 rfl rfl rfl (by simp) ?_
 simp only [cJ]
 repeat first|refine aa ?_|intro _
 rename_i b
 refine KX.a6 (vs:=[.agg #[.int .i64 0,.int .i64 2,.int .i64 9,.int .i64 o.tick,.int .i64 (-1),.int .i64 0,.slice (some ⟨b,0,none⟩) 1 1]]) (ResOk.cell rfl (by rfl) ResOk.nil) ?_ ⟨b,rfl,rfl⟩
 refine Ent.trans (B:=obj b tMv [.int .i64 o.acc,.int .i64 5,.int .i64 o.b,.int .i64 (max 1 (min o.c 9)),.slice none 0 0]::L) ae ?_
 exact Ent.c6 (enc:=aJ) (sz:=5) (xs:=[⟨⟨o.acc,5,o.b,max 1 (min o.c 9),[]⟩,none,0⟩]) (by simp;rfl) rfl (by intro z hz;simp at hz;subst hz;rfl) (by simp)
abbrev oq (r:ResM) (ad:Option Addr) (cap:Nat):Value:=.agg #[.int .i64 r.a,.int .i64 r.b,.slice ad r.l.length cap,.int .i64 r.code]
theorem rZ (o:OpM):cw 2 9 o.tick (-1) 0 (([⟨⟨o.acc,5,o.b,max 1 (min o.c 9),[]⟩,none,0⟩]:List MvV).map (·.m))=fB o:=rfl
theorem oN (o:OpM):MvPlain [⟨⟨o.acc,5,o.b,max 1 (min o.c 9),[]⟩,none,0⟩]:=fun m hm=>by
 rw [List.mem_singleton.1 hm]
 exact ⟨rfl,rfl⟩
theorem tV {S:LedM} {Y:YardM} {o:OpM} (h:o.kind=0) {q:(Int×Int)×LedM×YardM} (hq:bC S Y o.acc o.b o.a o.c o.tick=q):doM S Y o=(⟨q.1.1,0,[],q.1.2⟩,q.2):=by
 unfold doM;rw [if_pos h,hq]
theorem tU {S:LedM} {Y:YardM} {o:OpM} (h:o.kind=1) {q:Int×LedM×YardM} (hq:ba S Y o.acc o.a o.tick=q):doM S Y o=(⟨0,0,[],q.1⟩,q.2):=by
 unfold doM;rw [if_neg ab,if_pos h,hq]
theorem Bl {S:LedM} {Y:YardM} {o:OpM} (h:o.kind=2) {q:List Int×LedM×YardM} (hq:advM S Y o.tick=q):doM S Y o=(⟨0,0,q.1,0⟩,q.2):=by
 unfold doM;rw [if_neg ab,if_neg ab,if_pos h,hq]
theorem Bk {S:LedM} {Y:YardM} {o:OpM} (h:o.kind=3) {q:(Int×Int)×LedM×YardM} (hq:bI S Y o.acc o.a o.c o.tick=q):doM S Y o=(⟨q.1.1,0,[],q.1.2⟩,q.2):=by
 unfold doM;rw [if_neg ab,if_neg ab,if_neg ab,if_pos h,hq]
theorem Bj {S:LedM} {Y:YardM} {o:OpM} (h:o.kind=4) {q:(Int×Int×Int)×LedM×YardM} (hq:bW S Y o.acc (o.a / 4) o.tick=q):doM S Y o=(⟨q.1.1,q.1.2.1,[],q.1.2.2⟩,q.2):=by
 unfold doM;rw [if_neg ab,if_neg ab,if_neg ab,if_neg ab,if_pos h,hq]
theorem Bi {S:LedM} {Y:YardM} {o:OpM} (h0:¬o.kind=0) (h1:¬o.kind=1) (h2:¬o.kind=2) (h3:¬o.kind=3) (h4:¬o.kind=4):doM S Y o=(⟨cL S (fB o),0,[],(tryM S (fB o)).1⟩,aI S (fB o),Y):=by
 unfold doM;rw [if_neg h0,if_neg h1,if_neg h2,if_neg h3,if_neg h4]
attribute [local irreducible] tryM aI cL bC ba advM bI bW doM
theorem yQ {L:List HP} (yb lb:Nat) {n:Nat} (Y:YardM) (S:LedM) (h:RunI n S Y) (o:OpM) (ho:OpOk o) :
  Tri Tryz.prog 38 #[.pointer (some ⟨yb,0,none⟩),.pointer (some ⟨lb,0,none⟩),.agg (cJ o).toArray] (bz yb lb Y::LedR lb S::L) (fun v L'=>∃ ad cap,v=oq (doM S Y o).1 ad cap∧L' = osl (encZ .i64) 1 tInt ad cap (doM S Y o).1.l::bz yb lb (doM S Y o).2.2::LedR lb (doM S Y o).2.1::L):=by
 obtain ⟨ha1,ha2⟩:=ho.a
 have hdiv:o.a.tdiv 4=o.a / 4:=Int.tdiv_eq_ediv_of_nonneg ha1
 refine Tri.body (args:=[.pointer (some ⟨yb,0,none⟩),.pointer (some ⟨lb,0,none⟩),.agg (cJ o).toArray]) 103 en38 Tryz.func38 rfl rfl rfl (by simp) ?_
 simp only [cJ]
 have hos:OpOk o:=ho
 by_cases k0:o.kind=0
 ·obtain ⟨q,hq⟩:∃ q,bC S Y o.acc o.b o.a o.c o.tick=q:=⟨_,rfl⟩
  have hsp:=fun L:List HP=>ka (L:=L) yb lb Y h.yok S h.sok h.good h.cok o.acc o.b o.a o.c o.tick
  rw [hq] at hsp
  rw [tV k0 hq]
  repeat first|refine aa ?_|intro _
  (first|refine GO.ef (Ef.call (hsp []) rfl (by repeat (first|exact Ent.refl _|apply Ent.take))) ac ?_)
  rintro _ _ ⟨_,⟨rfl,rfl⟩,hL⟩
  simp only [List.cons_append,List.nil_append] at hL;subst hL
  repeat first|refine aa ?_|intro _
  refine KX.a6 (vs:=[.agg #[.int .i64 q.1.1,.int .i64 0,.slice none 0 0,.int .i64 q.1.2]]) (ResOk.cell rfl (by rfl) ResOk.nil) ?_ ⟨none,0,rfl,rfl⟩
  refine Ent.trans ?_ (Ent.a7 (encZ .i64) 1 tInt)
  exact ae
 by_cases k1:o.kind=1
 ·obtain ⟨q,hq⟩:∃ q,ba S Y o.acc o.a o.tick=q:=⟨_,rfl⟩
  have hsp:=fun L:List HP=>gy (L:=L) yb lb Y h.yok S h.sok h.cok h.good.items o.acc o.a o.tick
  rw [hq] at hsp
  rw [tU k1 hq]
  repeat first|refine aa ?_|intro _
  (first|refine GO.ef (Ef.call (hsp []) rfl (by repeat (first|exact Ent.refl _|apply Ent.take))) ac ?_)
  rintro _ _ ⟨_,⟨rfl,rfl⟩,hL⟩
  simp only [List.cons_append,List.nil_append] at hL;subst hL
  repeat first|refine aa ?_|intro _
  refine KX.a6 (vs:=[.agg #[.int .i64 0,.int .i64 0,.slice none 0 0,.int .i64 q.1]]) (ResOk.cell rfl (by rfl) ResOk.nil) ?_ ⟨none,0,rfl,rfl⟩
  refine Ent.trans ?_ (Ent.a7 (encZ .i64) 1 tInt)
  exact ae
 by_cases k2:o.kind=2
 ·obtain ⟨q,hq⟩:∃ q,advM S Y o.tick=q:=⟨_,rfl⟩
  have hsp:=fun L:List HP=>vT (L:=L) yb lb Y h.yok S h.sok h.good h.cok h.rul o.tick
  rw [hq] at hsp
  rw [Bl k2 hq]
  repeat first|refine aa ?_|intro _
  (first|refine GO.ef (Ef.call (hsp []) rfl (by repeat (first|exact Ent.refl _|apply Ent.take))) ac ?_)
  rintro _ _ ⟨_,⟨ad,cap,rfl,rfl⟩,hL⟩
  simp only [List.cons_append,List.nil_append] at hL;subst hL
  repeat first|refine aa ?_|intro _
  refine KX.a6 (vs:=[.agg #[.int .i64 0,.int .i64 0,.slice ad q.1.length cap,.int .i64 0]]) (ResOk.cell rfl (by rfl) ResOk.nil) ?_ ⟨ad,cap,rfl,rfl⟩
  exact ae
 by_cases k3:o.kind=3
 ·obtain ⟨q,hq⟩:∃ q,bI S Y o.acc o.a o.c o.tick=q:=⟨_,rfl⟩
  have hsp:=fun L:List HP=>zk (L:=L) yb lb Y S h.sok h.good h.cok o.acc o.a o.c o.tick
  rw [hq] at hsp
  rw [Bk k3 hq]
  repeat first|refine aa ?_|intro _
  (first|refine GO.ef (Ef.call (hsp []) rfl (by repeat (first|exact Ent.refl _|apply Ent.take))) ac ?_)
  rintro _ _ ⟨_,⟨rfl,rfl⟩,hL⟩
  simp only [List.cons_append,List.nil_append] at hL;subst hL
  repeat first|refine aa ?_|intro _
  refine KX.a6 (vs:=[.agg #[.int .i64 q.1.1,.int .i64 0,.slice none 0 0,.int .i64 q.1.2]]) (ResOk.cell rfl (by rfl) ResOk.nil) ?_ ⟨none,0,rfl,rfl⟩
  refine Ent.trans ?_ (Ent.a7 (encZ .i64) 1 tInt)
  exact ae
 by_cases k4:o.kind=4
 ·obtain ⟨q,hq⟩:∃ q,bW S Y o.acc (o.a / 4) o.tick=q:=⟨_,rfl⟩
  have hsp:=fun L:List HP=>Cz (L:=L) yb lb Y h.yok S h.sok h.good h.cok o.acc (o.a / 4) o.tick
  rw [hq] at hsp
  rw [Bj k4 hq]
  repeat first|refine aa ?_|intro _
  try rw [hdiv]
  try repeat (first|refine aa ?_|intro _)
  (first|refine GO.ef (Ef.call (hsp []) rfl (by repeat (first|exact Ent.refl _|apply Ent.take))) ac ?_)
  rintro _ _ ⟨_,⟨rfl,rfl⟩,hL⟩
  simp only [List.cons_append,List.nil_append] at hL;subst hL
  repeat first|refine aa ?_|intro _
  refine KX.a6 (vs:=[.agg #[.int .i64 q.1.1,.int .i64 q.1.2.1,.slice none 0 0,.int .i64 q.1.2.2]]) (ResOk.cell rfl (by rfl) ResOk.nil) ?_ ⟨none,0,rfl,rfl⟩
  refine Ent.trans ?_ (Ent.a7 (encZ .i64) 1 tInt)
  exact ae
 have hpo:=fun (L:List HP) (b:Nat)=>Es (L:=L) lb S h.sok h.cok 2 9 o.tick (-1) 0 (some ⟨b,0,none⟩) 1 1 [⟨⟨o.acc,5,o.b,max 1 (min o.c 9),[]⟩,none,0⟩] rfl jl (by simp) (by unfold I64;omega) (oN o)
 rw [rZ] at hpo
 rw [Bi k0 k1 k2 k3 k4]
 repeat first|refine aa ?_|intro _
 refine GO.ef (Ef.a6 (pX o hos.c) rfl) ac ?_
 rintro _ _ ⟨b,rfl,rfl⟩
 repeat first|refine aa ?_|intro _
 (first|refine GO.ef (Ef.call (hpo [] b) rfl (by repeat (first|exact Ent.refl _|apply Ent.take))) ac ?_)
 rintro _ _ ⟨_,⟨rfl,rfl⟩,hL⟩
 simp only [List.cons_append,List.nil_append] at hL;subst hL
 repeat first|refine aa ?_|intro _
 refine KX.a6 (vs:=[.agg #[.int .i64 (cL S (fB o)),.int .i64 0,.slice none 0 0,.int .i64 (tryM S (fB o)).1]]) (ResOk.cell rfl (by rfl) ResOk.nil) ?_ ⟨none,0,rfl,rfl⟩
 refine Ent.trans ?_ (Ent.a7 (encZ .i64) 1 tInt)
 exact ae
abbrev Az:List Stp:=[.ev 0,.ev 1,.ev 2,.ev 3,.ev 4,.ef 5,.ef 6,.ev 7,.ev 8,.ev 9,.ev 10,.ev 11]
theorem cV {φ ψ:Prop} (k:ψ) (h:Hid ψ→φ:=by intro k;(with_reducible apply G.a7);first|refine G.a6 (N:=104) (id:=15) Az mixed ah (Hid.out k)):φ:=h ⟨k⟩
theorem uv {L:List HP} (yb lb:Nat) {n:Nat} (Y:YardM) (S:LedM) (h:RunI n S Y) (o:OpM) (ho:OpOk o) :
  Tri Tryz.prog 39 #[.pointer (some ⟨yb,0,none⟩),.agg (cJ o).toArray] (cZ yb lb Y::aW lb S::L) (fun v L'=>∃ ad cap,v=oq (doM S Y o).1 ad cap∧L' = osl (encZ .i64) 1 tInt ad cap (doM S Y o).1.l::cZ yb lb (doM S Y o).2.2::aW lb (doM S Y o).2.1::L):=by
 obtain ⟨ha1,ha2⟩:=ho.a
 have hdiv:o.a.tdiv 4=o.a / 4:=Int.tdiv_eq_ediv_of_nonneg ha1
 refine Tri.body (args:=[.pointer (some ⟨yb,0,none⟩),.agg (cJ o).toArray]) 104 en39 Tryz.func39 rfl rfl rfl (by simp) ?_
 simp only [cJ]
 have hos:OpOk o:=ho
 by_cases k0:o.kind=0
 ·obtain ⟨q,hq⟩:∃ q,bC S Y o.acc o.b o.a o.c o.tick=q:=⟨_,rfl⟩
  have hsp:=fun L:List HP=>wm (L:=L) yb lb Y h.yok S h.sok h.good h.cok o.acc o.b o.a o.c o.tick
  rw [hq] at hsp
  rw [tV k0 hq]
  repeat first|refine aa ?_|intro _|refine cV ?_
  (first|refine GO.ef (Ef.call (hsp []) rfl (by repeat (first|exact Ent.refl _|apply Ent.take))) ac ?_)
  rintro _ _ ⟨_,⟨rfl,rfl⟩,hL⟩
  simp only [List.cons_append,List.nil_append] at hL;subst hL
  repeat first|refine aa ?_|intro _|refine cV ?_
  refine KX.a6 (vs:=[.agg #[.int .i64 q.1.1,.int .i64 0,.slice none 0 0,.int .i64 q.1.2]]) (ResOk.cell rfl (by rfl) ResOk.nil) ?_ ⟨none,0,rfl,rfl⟩
  refine Ent.trans ?_ (Ent.a7 (encZ .i64) 1 tInt)
  exact ae
 by_cases k1:o.kind=1
 ·obtain ⟨q,hq⟩:∃ q,ba S Y o.acc o.a o.tick=q:=⟨_,rfl⟩
  have hsp:=fun L:List HP=>uy (L:=L) yb lb Y h.yok S h.sok h.good h.cok o.acc o.a o.tick
  rw [hq] at hsp
  rw [tU k1 hq]
  repeat first|refine aa ?_|intro _|refine cV ?_
  (first|refine GO.ef (Ef.call (hsp []) rfl (by repeat (first|exact Ent.refl _|apply Ent.take))) ac ?_)
  rintro _ _ ⟨_,⟨rfl,rfl⟩,hL⟩
  simp only [List.cons_append,List.nil_append] at hL;subst hL
  repeat first|refine aa ?_|intro _|refine cV ?_
  refine KX.a6 (vs:=[.agg #[.int .i64 0,.int .i64 0,.slice none 0 0,.int .i64 q.1]]) (ResOk.cell rfl (by rfl) ResOk.nil) ?_ ⟨none,0,rfl,rfl⟩
  refine Ent.trans ?_ (Ent.a7 (encZ .i64) 1 tInt)
  exact ae
 by_cases k2:o.kind=2
 ·obtain ⟨q,hq⟩:∃ q,advM S Y o.tick=q:=⟨_,rfl⟩
  have hsp:=fun L:List HP=>BT (L:=L) yb lb Y h.yok S h.sok h.good h.cok h.rul o.tick
  rw [hq] at hsp
  rw [Bl k2 hq]
  repeat first|refine aa ?_|intro _|refine cV ?_
  (first|refine GO.ef (Ef.call (hsp []) rfl (by repeat (first|exact Ent.refl _|apply Ent.take))) ac ?_)
  rintro _ _ ⟨_,⟨ad,cap,rfl,rfl⟩,hL⟩
  simp only [List.cons_append,List.nil_append] at hL;subst hL
  repeat first|refine aa ?_|intro _|refine cV ?_
  refine KX.a6 (vs:=[.agg #[.int .i64 0,.int .i64 0,.slice ad q.1.length cap,.int .i64 0]]) (ResOk.cell rfl (by rfl) ResOk.nil) ?_ ⟨ad,cap,rfl,rfl⟩
  exact ae
 by_cases k3:o.kind=3
 ·obtain ⟨q,hq⟩:∃ q,bI S Y o.acc o.a o.c o.tick=q:=⟨_,rfl⟩
  have hsp:=fun L:List HP=>wo (L:=L) yb lb Y S h.sok h.good h.cok o.acc o.a o.c o.tick
  rw [hq] at hsp
  rw [Bk k3 hq]
  repeat first|refine aa ?_|intro _|refine cV ?_
  (first|refine GO.ef (Ef.call (hsp []) rfl (by repeat (first|exact Ent.refl _|apply Ent.take))) ac ?_)
  rintro _ _ ⟨_,⟨rfl,rfl⟩,hL⟩
  simp only [List.cons_append,List.nil_append] at hL;subst hL
  repeat first|refine aa ?_|intro _|refine cV ?_
  refine KX.a6 (vs:=[.agg #[.int .i64 q.1.1,.int .i64 0,.slice none 0 0,.int .i64 q.1.2]]) (ResOk.cell rfl (by rfl) ResOk.nil) ?_ ⟨none,0,rfl,rfl⟩
  refine Ent.trans ?_ (Ent.a7 (encZ .i64) 1 tInt)
  exact ae
 by_cases k4:o.kind=4
 ·obtain ⟨q,hq⟩:∃ q,bW S Y o.acc (o.a / 4) o.tick=q:=⟨_,rfl⟩
  have hsp:=fun L:List HP=>zx (L:=L) yb lb Y h.yok S h.sok h.good h.cok o.acc (o.a / 4) o.tick
  rw [hq] at hsp
  rw [Bj k4 hq]
  repeat first|refine aa ?_|intro _|refine cV ?_
  try rw [hdiv]
  try repeat (first|refine aa ?_|intro _|refine cV ?_)
  (first|refine GO.ef (Ef.call (hsp []) rfl (by repeat (first|exact Ent.refl _|apply Ent.take))) ac ?_)
  rintro _ _ ⟨_,⟨rfl,rfl⟩,hL⟩
  simp only [List.cons_append,List.nil_append] at hL;subst hL
  repeat first|refine aa ?_|intro _|refine cV ?_
  refine KX.a6 (vs:=[.agg #[.int .i64 q.1.1,.int .i64 q.1.2.1,.slice none 0 0,.int .i64 q.1.2.2]]) (ResOk.cell rfl (by rfl) ResOk.nil) ?_ ⟨none,0,rfl,rfl⟩
  refine Ent.trans ?_ (Ent.a7 (encZ .i64) 1 tInt)
  exact ae
 have hpo:=fun (L:List HP) (b:Nat)=>ku (L:=L) lb S h.sok h.cok h.good 2 9 o.tick (-1) 0 (some ⟨b,0,none⟩) 1 1 [⟨⟨o.acc,5,o.b,max 1 (min o.c 9),[]⟩,none,0⟩] rfl jl (by simp) (by unfold I64;omega) (oN o)
 rw [rZ] at hpo
 rw [Bi k0 k1 k2 k3 k4]
 refine G.c6 (f:=ryA yb lb Y) ?_
 intro y
 simp only [ryA,ryL,List.cons_append,List.nil_append]
 repeat first|refine aa ?_|intro _|refine cV ?_
 refine GPW.ef (Ef.a6 (pX o hos.c) rfl) ac ?_
 rintro _ _ ⟨b,rfl,rfl⟩
 repeat first|refine aa ?_|intro _|refine cV ?_
 (first|refine GPW.ef (Ef.call (hpo [] b) rfl (by repeat (first|exact Ent.refl _|apply Ent.take))) ac ?_)
 rintro _ _ ⟨_,⟨rfl,rfl⟩,hL⟩
 simp only [List.cons_append,List.nil_append] at hL;subst hL
 repeat first|refine aa ?_|intro _|refine cV ?_
 refine KX.a6 (vs:=[.agg #[.int .i64 (cL S (fB o)),.int .i64 0,.slice none 0 0,.int .i64 (tryM S (fB o)).1]]) (ResOk.cell rfl (by rfl) ResOk.nil) ?_ ⟨none,0,rfl,rfl⟩
 refine Ent.trans ?_ (Ent.a7 (encZ .i64) 1 tInt)
 refine Ent.trans ?_ (ed (yb:=yb) (lb:=lb) (Y:=Y) (L:=aW lb (aI S (fB o))::L) y)
 simp only [ryL]
 exact ae
end
section
theorem nt {L:List HP} (r:ResM) (ad ad2:Option Addr) (cap cap2:Nat) [Rds L ad Int (encZ .i64) 1 r.l] [Rds L ad2 Int (encZ .i64) 1 r.l] (hl:r.l.length≤1000) :
  Tri Tryz.prog 37 #[oq r ad cap,oq r ad2 cap2] L (fun v L'=>v=.bool true∧L' = L):=by
 refine Tri.body (args:=[oq r ad cap,oq r ad2 cap2]) 33 en37 Tryz.func37 rfl rfl rfl (by simp) ?_
 repeat first|refine aa ?_|intro _
 refine GO.ef (Ef.a6 (ql ad ad2 r.l.length r.l.length cap cap2 r.l r.l rfl rfl ab) rfl) ac ?_
 rintro _ _ ⟨rfl,rfl⟩
 rw [aw rfl]
 repeat first|refine aa ?_|intro _
 refine KX.a6 ai ?_ ⟨?_,rfl⟩
 ·exact ae
 ·rw [aw rfl]
  rfl
theorem bF {L:List HP} (ad:Option Addr) (n c:Nat) (xs:List Int) [Rds L ad Int (encZ .i64) 1 xs] (hn:n=xs.length) (hx:∀ x∈xs,I64 x) (i k:Int) (hi:0≤i∧i≤1000) (hk:1≤k∧k≤1000) :
  Tri Tryz.prog 80 #[.slice ad n c,.int .i64 i,.int .i64 k] L (fun v L'=>∃ p,v=.int .i64 p∧(0≤p∧p<k)∧L' = L):=by
 subst hn
 refine Tri.body (args:=[.slice ad xs.length c,.int .i64 i,.int .i64 k]) 25 en80 Tryz.func80 rfl rfl rfl (by simp) ?_
 by_cases hlt:i<xs.length
 case neg =>
  repeat first|refine aa ?_|intro _
  exact KX.a6 ai (Ent.refl _) ⟨0,rfl,⟨ab,ab⟩,rfl⟩
 have hin:i.toNat<xs.length:=ab
 have hi0:=hi.1
 have h1:=Int.emod_nonneg xs[i.toNat]! (show k≠0 by omega)
 have h2:=Int.emod_lt_of_pos xs[i.toNat]! (show 0<k by omega)
 repeat first|refine aa ?_|intro _
 refine GO.ef (Ef.a6 (gX xs[i.toNat]! k (hx _ (ap hin)) ab ab) rfl) ac ?_
 rintro _ _ ⟨rfl,rfl⟩
 repeat first|refine aa ?_|intro _
 exact KX.a6 ai (Ent.refl _) ⟨_,rfl,⟨h1,h2⟩,rfl⟩
def tabT:List Int:=[0,0,1,2,5]
def tabK:List Int:=[3,3,0,0,0,0,2,2,1,4,5]
def tabC:List Int:=[0,-1,1000,1001,1099511627777]
def tabA:List Int:=[0,-1,1048576,1048575]
theorem EK:∀ k:Nat,k<5→0≤tabT[k]!∧tabT[k]!≤5:=by decide
theorem EL:∀ k:Nat,k<11→0≤tabK[k]!∧tabK[k]!≤5:=by decide
theorem EM:∀ k:Nat,k<5→I64 tabC[k]!:=by unfold I64;decide
theorem EN:∀ k:Nat,k<4→-1≤tabA[k]!∧tabA[k]!≤1048576:=by decide
def OpsG:List Int→Prop
 | []=>True
 | [p1]=>(0≤p1∧p1<11)
 | [p1,p2]=>(0≤p1∧p1<11)∧(0≤p2∧p2<3)
 | [p1,p2,p3]=>(0≤p1∧p1<11)∧(0≤p2∧p2<3)∧(0≤p3∧p3<6)
 | [p1,p2,p3,p4]=>(0≤p1∧p1<11)∧(0≤p2∧p2<3)∧(0≤p3∧p3<6)∧(0≤p4∧p4<5)
 | [p1,p2,p3,p4,p5]=>(0≤p1∧p1<11)∧(0≤p2∧p2<3)∧(0≤p3∧p3<6)∧(0≤p4∧p4<5)∧(0≤p5∧p5<3)
 | _=>False
structure OpsI where
 a:Option Nat
 z:Option Nat
 ps:List Int
 ok:OpsG ps
abbrev opsD (a z:Option Nat) (ps:List Int):List Nat :=
 (match z with|some _=>[27]|none=>[])++(match a with|some _=>[0]|none=>[])++(match a,ps with|some _,_::_=>[6,5]|_,_=>[]) ++
 (match ps with|[]=>[]|[_]=>[4]|[_,_]=>[11,10,4]|[_,_,_]=>[15,11,10,4]|[_,_,_,_]=>[19,15,11,10,4]|_=>[24,23,19,15,11,10,4])++(match a,ps with|some _,[_,_,_,_,_]=>[26]|_,_=>[])++[1,2,3,7,8,9,12,13,14,16,17,18,20,21,22,25]
abbrev opsP (a:Option Nat) (ps:List Int):List PE:=match a,ps with
 | some b0,p1::_=>[⟨6,Op.load 3 (Operand.tmp 30),3,[(30,.pointer (elP (some ⟨b0,0,none⟩) 1 p1.toNat 0))],.int .i64 tabK[p1.toNat]!⟩,⟨5,Op.indexAddr 34 (Operand.tmp 25) (Operand.tmp 29),0,[(25,.slice (some ⟨b0,0,none⟩) 11 11),(29,.int .i64 p1)],.pointer (elP (some ⟨b0,0,none⟩) 1 p1.toNat 0)⟩]
 | _,_=>[]
abbrev opsE (ad ad' : Option Addr) (n c nl cap' m i:Nat) (tk:Int) (a z:Option Nat) (ps:List Int):Env :=
 (match z with|some b9=>[(9,.pointer (some ⟨b9,0,none⟩))]|none=>[])++(match a with|some b0=>[(25,.slice (some ⟨b0,0,none⟩) 11 11)]|none=>[])++(match a,ps with|some _,p1::_=>[(31,.int .i64 tabK[p1.toNat]!)]|_,_=>[]) ++
 (match ps with|[]=>[]|[p1]=>[(29,.int .i64 p1)]|[p1,p2]=>[(29,.int .i64 p1),(36,.int .i64 (1+p2))]|[p1,p2,p3]=>[(29,.int .i64 p1),(36,.int .i64 (1+p2)),(40,.int .i64 p3)]|[p1,p2,p3,p4]=>[(29,.int .i64 p1),(36,.int .i64 (1+p2)),(40,.int .i64 p3),(44,.int .i64 p4)]|p1::p2::p3::p4::p5::_=>[(29,.int .i64 p1),(36,.int .i64 (1+p2)),(40,.int .i64 p3),(44,.int .i64 p4),(49,.int .i64 (1+p5))]) ++
 (match a,ps with|some _,[p1,p2,p3,p4,p5]=>[(51,.agg #[.int .i64 tabK[p1.toNat]!,.int .i64 (1+p2),.int .i64 p3,.int .i64 p4,.int .i64 (1+p5),.int .i64 tk])]|_,_=>[]) ++
 [(26,.slice ad n c),(28,.int .i64 (6*(i:Int)+1)),(32,.slice ad n c),(34,.int .i64 (6*(i:Int)+2)),(37,.slice ad n c),(39,.int .i64 (6*(i:Int)+3)),(41,.slice ad n c),(43,.int .i64 (6*(i:Int)+4)),(45,.slice ad n c),(47,.int .i64 (6*(i:Int)+5)),(50,.int .i64 tk),(0,.slice ad n c),(1,.int .i64 (m:Int)),(5,.slice ad' nl cap'),(6,.int .i64 tk),(7,.int .i64 (i:Int)),(8,.int .i64 (6*(i:Int)))]
abbrev opsL (L:List HP) (a z:Option Nat):List HP:=(match z with|some b9=>[obj b9 tOp [.int .i64 0,.int .i64 0,.int .i64 0,.int .i64 0,.int .i64 0,.int .i64 0]]|none=>[])++(match a with|some b0=>[osl (encZ .i64) 1 tInt (some ⟨b0,0,none⟩) 11 tabK]|none=>[])++L
abbrev opsR (s:OpsI):Nat:=(5 - s.ps.length)+(match s.a with|none=>1|some _=>0)+(match s.z with|none=>1|some _=>0)
theorem uU {L:List HP} (ad:Option Addr) (n c:Nat) (xs:List Int) [hrd:Rds L ad Int (encZ .i64) 1 xs] (hn:n=xs.length) (hx:∀ x∈xs,I64 x) (m:Nat) (hm:m≤18) :
  Tri Tryz.prog 36 #[.slice ad n c,.int .i64 (m:Int)] L (fun v L'=>∃ ad' cap' ops,v=.slice ad' ops.length cap'∧(ops.length=m∧∀ o∈ops,OpOk o)∧L' = osl cJ 6 tOp ad' cap' ops::L):=by
 subst hn
 refine Tri.body (args:=[.slice ad xs.length c,.int .i64 (m:Int)]) 108 en36 Tryz.func36 rfl rfl rfl (by simp) ?_
 repeat first|refine aa ?_|intro _
 refine G.loop (α:=Nat×Int×List OpM×Option Addr×Nat) (fun g=>g.1≤m∧(0≤g.2.1∧g.2.1≤5*(g.1:Int))∧g.2.2.1.length=g.1∧∀ o∈g.2.2.1,OpOk o) (fun g=>[(0,.slice ad xs.length c),(1,.int .i64 (m:Int)),(5,.slice g.2.2.2.1 g.2.2.1.length g.2.2.2.2),(6,.int .i64 g.2.1),(7,.int .i64 (g.1:Int))]) (fun g=>osl cJ 6 tOp g.2.2.2.1 g.2.2.2.2 g.2.2.1::L) (fun g=>m - g.1) (0,0,[],none,0) ⟨Nat.zero_le _,by dsimp only;omega,rfl,fun o ho=>by cases ho⟩ aj (Ent.a7 cJ 6 tOp) ?_
 rintro ⟨i,tk,ops,ad',cap'⟩ ⟨hi,ht,hl,ho⟩
 dsimp only at hi ht hl ho ⊢
 by_cases hlt:i<m
 case neg =>
  obtain rfl:i=m:=ab
  repeat first|refine aa ?_|intro _
  exact KX.a6 ai (Ent.refl _) ⟨ad',cap',ops,rfl,⟨hl,ho⟩,rfl⟩
 repeat first|refine aa ?_|intro _
 rename_i b1
 refine GO.ent (Ent.c6 (enc:=encZ .i64) (sz:=1) (xs:=tabT) rfl rfl (fun _ _=>rfl) ac) ?_
 refine GO.ef (Ef.a6 (bF ad xs.length c xs rfl hx (6*(i:Int)) 5 ab ab) rfl) ac ?_
 rintro _ _ ⟨p0,rfl,⟨p0a,p0b⟩,rfl⟩
 have htl:tabT.length=5:=rfl
 have hkl:tabK.length=11:=rfl
 have htb:=EK p0.toNat ab
 repeat first|((fail_if_success (with_reducible refine G.atS 8 ?_));(with_reducible apply G.seq))|refine aL ?_|intro _
 obtain ⟨tk2,htk2⟩:∃ t,tk+tabT[p0.toNat]! = t:=⟨_,rfl⟩
 rw [htk2]
 have ht2:0≤tk2∧tk2≤5*(i:Int)+5:=ab
 have ht3:0≤tk2∧tk2≤90:=ab
 refine G.ent (L':=osl cJ 6 tOp ad' cap' ops::L) ae ?_
 refine G.a8 (α:=OpM×Nat) (fun o=>OpOk o.1) (fun o=>[(0,.slice ad xs.length c),(1,.int .i64 (m:Int)),(5,.slice ad' ops.length cap'),(6,.int .i64 tk2),(7,.int .i64 (i:Int)),(8,.int .i64 (6*(i:Int))),(9,.pointer (some ⟨o.2,0,none⟩))]) (fun o=>obj o.2 tOp [.int .i64 o.1.kind,.int .i64 o.1.acc,.int .i64 o.1.a,.int .i64 o.1.b,.int .i64 o.1.c,.int .i64 o.1.tick]::osl cJ 6 tOp ad' cap' ops::L) ?_ ?_
 ·refine G.d8 mixed ah ?_
  refine GF.evP (i:=1) rfl ah (Ev.move rfl) ac ?_
  refine GF.evP (i:=2) rfl ah (Ev.move rfl) ac ?_
  refine GF.evP (i:=3) rfl ah (Ev.add rfl rfl ab ab) ac ?_
  refine GF.evP (i:=7) rfl ah (Ev.move rfl) ac ?_
  refine GF.evP (i:=8) rfl ah (Ev.move rfl) ac ?_
  refine GF.evP (i:=9) rfl ah (Ev.add rfl rfl ab ab) ac ?_
  refine GF.evP (i:=12) rfl ah (Ev.move rfl) ac ?_
  refine GF.evP (i:=13) rfl ah (Ev.move rfl) ac ?_
  refine GF.evP (i:=14) rfl ah (Ev.add rfl rfl ab ab) ac ?_
  refine GF.evP (i:=16) rfl ah (Ev.move rfl) ac ?_
  refine GF.evP (i:=17) rfl ah (Ev.move rfl) ac ?_
  refine GF.evP (i:=18) rfl ah (Ev.add rfl rfl ab ab) ac ?_
  refine GF.evP (i:=20) rfl ah (Ev.move rfl) ac ?_
  refine GF.evP (i:=21) rfl ah (Ev.move rfl) ac ?_
  refine GF.evP (i:=22) rfl ah (Ev.add rfl rfl ab ab) ac ?_
  refine GF.evP (i:=25) rfl ah (Ev.move rfl) ac ?_
  refine GF.conseq (done':=opsD none none []) (env':=opsE ad ad' xs.length c ops.length cap' m i tk2 none none []) (L':=opsL (osl cJ 6 tOp ad' cap' ops::L) none none) ah aj (Ent.refl _) ?_
  refine GF.fam (ι:=OpsI) (fun s=>opsD s.a s.z s.ps) (fun s=>29 - (opsD s.a s.z s.ps).length) (fun s=>opsP s.a s.ps) (fun s=>opsE ad ad' xs.length c ops.length cap' m i tk2 s.a s.z s.ps) (fun s=>opsL (osl cJ 6 tOp ad' cap' ops::L) s.a s.z) opsR ?_ ⟨none,none,[],trivial⟩
  rintro ⟨a,z,ps,hps⟩ ih
  dsimp only
  rcases a with _|b0<;>rcases z with _|b9
  ·rcases ps with _|⟨p1,_|⟨p2,_|⟨p3,_|⟨p4,_|⟨p5,_|⟨p6,r⟩⟩⟩⟩⟩⟩
   ·dsimp only [opsL,opsE,opsP,List.nil_append,List.cons_append]
    change GF _ _ _ _ 13 _ _ _ _
    refine GF.a8 0 4 27 ah ?_ ?_ ?_
    ·refine GE.ef rfl (Ef.lit rfl rfl ac rfl) ac ?_
     rintro _ _ ⟨b0,rfl,rfl⟩
     refine ⟨(by intro pe hp;cases hp),?_⟩
     refine GF.ent (L':=osl (encZ .i64) 1 tInt (some ⟨b0,0,none⟩) 11 tabK::osl cJ 6 tOp ad' cap' ops::L) (Ent.trans (Ent.c6 (enc:=encZ .i64) (sz:=1) (xs:=tabK) rfl rfl (fun _ _=>rfl) ac) ae) ?_
     exact GF.conseq ah aj (Ent.refl _) (ih ⟨some b0,none,[],trivial⟩ (Nat.le_of_ble_eq_true rfl))
    ·refine GE.ef rfl (Ef.a6 (bF ad xs.length c xs rfl hx (6*(i:Int)+1) 11 ab ab) rfl) ac ?_
     rintro _ _ ⟨p1,rfl,h1,rfl⟩
     refine ⟨(by intro pe hp;cases hp),?_⟩
     exact GF.conseq ah aj (Ent.refl _) (ih ⟨none,none,[p1],h1⟩ (Nat.le_of_ble_eq_true rfl))
    ·refine GE.ef rfl Ef.alloc ac ?_
     rintro _ _ ⟨b9,rfl,rfl⟩
     refine ⟨(by intro pe hp;cases hp),?_⟩
     exact GF.conseq ah aj ae (ih ⟨none,some b9,[],trivial⟩ (Nat.le_of_ble_eq_true rfl))
   ·dsimp only [opsL,opsE,opsP,List.nil_append,List.cons_append]
    have h1:0≤p1∧p1<11:=hps
    change GF _ _ _ _ 12 _ _ _ _
    refine GF.a8 0 10 27 ah ?_ ?_ ?_
    ·refine GE.ef rfl (Ef.lit rfl rfl ac rfl) ac ?_
     rintro _ _ ⟨b0,rfl,rfl⟩
     refine ⟨(by intro pe hp;cases hp),?_⟩
     refine GF.ent (L':=osl (encZ .i64) 1 tInt (some ⟨b0,0,none⟩) 11 tabK::osl cJ 6 tOp ad' cap' ops::L) (Ent.trans (Ent.c6 (enc:=encZ .i64) (sz:=1) (xs:=tabK) rfl rfl (fun _ _=>rfl) ac) ae) ?_
     refine GF.evS (env₀:=[(25,.slice (some ⟨b0,0,none⟩) 11 11),(29,.int .i64 p1)]) (i:=5) (v:=.pointer (elP (some ⟨b0,0,none⟩) 1 p1.toNat 0)) (EnvSub.cons rfl (EnvSub.cons rfl (EnvSub.nil _))) rfl ah (Ev.indexAddr (xs:=tabK) rfl rfl ab ab ab) ac ?_
     refine GF.evS (env₀:=[(30,.pointer (elP (some ⟨b0,0,none⟩) 1 p1.toNat 0))]) (i:=6) (v:=.int .i64 tabK[p1.toNat]!) (EnvSub.cons rfl (EnvSub.nil _)) rfl ah (Ev.a6 (xs:=tabK) rfl ab ac rfl) ac ?_
     exact GF.conseq ah aj (Ent.refl _) (ih ⟨some b0,none,[p1],h1⟩ (Nat.le_of_ble_eq_true rfl))
    ·refine GE.ef rfl (Ef.a6 (bF ad xs.length c xs rfl hx (6*(i:Int)+2) 3 ab ab) rfl) ac ?_
     rintro _ _ ⟨p2,rfl,h2,rfl⟩
     refine ⟨(by intro pe hp;cases hp),?_⟩
     refine GF.evP (i:=11) rfl ah (Ev.add rfl rfl ab ab) ac ?_
     exact GF.conseq ah aj (Ent.refl _) (ih ⟨none,none,[p1,p2],⟨h1,h2⟩⟩ (Nat.le_of_ble_eq_true rfl))
    ·refine GE.ef rfl Ef.alloc ac ?_
     rintro _ _ ⟨b9,rfl,rfl⟩
     refine ⟨(by intro pe hp;cases hp),?_⟩
     exact GF.conseq ah aj ae (ih ⟨none,some b9,[p1],h1⟩ (Nat.le_of_ble_eq_true rfl))
   ·dsimp only [opsL,opsE,opsP,List.nil_append,List.cons_append]
    obtain ⟨h1,h2⟩:=hps
    change GF _ _ _ _ 10 _ _ _ _
    refine GF.a8 0 15 27 ah ?_ ?_ ?_
    ·refine GE.ef rfl (Ef.lit rfl rfl ac rfl) ac ?_
     rintro _ _ ⟨b0,rfl,rfl⟩
     refine ⟨(by intro pe hp;cases hp),?_⟩
     refine GF.ent (L':=osl (encZ .i64) 1 tInt (some ⟨b0,0,none⟩) 11 tabK::osl cJ 6 tOp ad' cap' ops::L) (Ent.trans (Ent.c6 (enc:=encZ .i64) (sz:=1) (xs:=tabK) rfl rfl (fun _ _=>rfl) ac) ae) ?_
     refine GF.evS (env₀:=[(25,.slice (some ⟨b0,0,none⟩) 11 11),(29,.int .i64 p1)]) (i:=5) (v:=.pointer (elP (some ⟨b0,0,none⟩) 1 p1.toNat 0)) (EnvSub.cons rfl (EnvSub.cons rfl (EnvSub.nil _))) rfl ah (Ev.indexAddr (xs:=tabK) rfl rfl ab ab ab) ac ?_
     refine GF.evS (env₀:=[(30,.pointer (elP (some ⟨b0,0,none⟩) 1 p1.toNat 0))]) (i:=6) (v:=.int .i64 tabK[p1.toNat]!) (EnvSub.cons rfl (EnvSub.nil _)) rfl ah (Ev.a6 (xs:=tabK) rfl ab ac rfl) ac ?_
     exact GF.conseq ah aj (Ent.refl _) (ih ⟨some b0,none,[p1,p2],⟨h1,h2⟩⟩ (Nat.le_of_ble_eq_true rfl))
    ·refine GE.ef rfl (Ef.a6 (bF ad xs.length c xs rfl hx (6*(i:Int)+3) 6 ab ab) rfl) ac ?_
     rintro _ _ ⟨p3,rfl,h3,rfl⟩
     refine ⟨(by intro pe hp;cases hp),?_⟩
     exact GF.conseq ah aj (Ent.refl _) (ih ⟨none,none,[p1,p2,p3],⟨h1,h2,h3⟩⟩ (Nat.le_of_ble_eq_true rfl))
    ·refine GE.ef rfl Ef.alloc ac ?_
     rintro _ _ ⟨b9,rfl,rfl⟩
     refine ⟨(by intro pe hp;cases hp),?_⟩
     exact GF.conseq ah aj ae (ih ⟨none,some b9,[p1,p2],⟨h1,h2⟩⟩ (Nat.le_of_ble_eq_true rfl))
   ·dsimp only [opsL,opsE,opsP,List.nil_append,List.cons_append]
    obtain ⟨h1,h2,h3⟩:=hps
    change GF _ _ _ _ 9 _ _ _ _
    refine GF.a8 0 19 27 ah ?_ ?_ ?_
    ·refine GE.ef rfl (Ef.lit rfl rfl ac rfl) ac ?_
     rintro _ _ ⟨b0,rfl,rfl⟩
     refine ⟨(by intro pe hp;cases hp),?_⟩
     refine GF.ent (L':=osl (encZ .i64) 1 tInt (some ⟨b0,0,none⟩) 11 tabK::osl cJ 6 tOp ad' cap' ops::L) (Ent.trans (Ent.c6 (enc:=encZ .i64) (sz:=1) (xs:=tabK) rfl rfl (fun _ _=>rfl) ac) ae) ?_
     refine GF.evS (env₀:=[(25,.slice (some ⟨b0,0,none⟩) 11 11),(29,.int .i64 p1)]) (i:=5) (v:=.pointer (elP (some ⟨b0,0,none⟩) 1 p1.toNat 0)) (EnvSub.cons rfl (EnvSub.cons rfl (EnvSub.nil _))) rfl ah (Ev.indexAddr (xs:=tabK) rfl rfl ab ab ab) ac ?_
     refine GF.evS (env₀:=[(30,.pointer (elP (some ⟨b0,0,none⟩) 1 p1.toNat 0))]) (i:=6) (v:=.int .i64 tabK[p1.toNat]!) (EnvSub.cons rfl (EnvSub.nil _)) rfl ah (Ev.a6 (xs:=tabK) rfl ab ac rfl) ac ?_
     exact GF.conseq ah aj (Ent.refl _) (ih ⟨some b0,none,[p1,p2,p3],⟨h1,h2,h3⟩⟩ (Nat.le_of_ble_eq_true rfl))
    ·refine GE.ef rfl (Ef.a6 (bF ad xs.length c xs rfl hx (6*(i:Int)+4) 5 ab ab) rfl) ac ?_
     rintro _ _ ⟨p4,rfl,h4,rfl⟩
     refine ⟨(by intro pe hp;cases hp),?_⟩
     exact GF.conseq ah aj (Ent.refl _) (ih ⟨none,none,[p1,p2,p3,p4],⟨h1,h2,h3,h4⟩⟩ (Nat.le_of_ble_eq_true rfl))
    ·refine GE.ef rfl Ef.alloc ac ?_
     rintro _ _ ⟨b9,rfl,rfl⟩
     refine ⟨(by intro pe hp;cases hp),?_⟩
     exact GF.conseq ah aj ae (ih ⟨none,some b9,[p1,p2,p3],⟨h1,h2,h3⟩⟩ (Nat.le_of_ble_eq_true rfl))
   ·dsimp only [opsL,opsE,opsP,List.nil_append,List.cons_append]
    obtain ⟨h1,h2,h3,h4⟩:=hps
    change GF _ _ _ _ 8 _ _ _ _
    refine GF.a8 0 23 27 ah ?_ ?_ ?_
    ·refine GE.ef rfl (Ef.lit rfl rfl ac rfl) ac ?_
     rintro _ _ ⟨b0,rfl,rfl⟩
     refine ⟨(by intro pe hp;cases hp),?_⟩
     refine GF.ent (L':=osl (encZ .i64) 1 tInt (some ⟨b0,0,none⟩) 11 tabK::osl cJ 6 tOp ad' cap' ops::L) (Ent.trans (Ent.c6 (enc:=encZ .i64) (sz:=1) (xs:=tabK) rfl rfl (fun _ _=>rfl) ac) ae) ?_
     refine GF.evS (env₀:=[(25,.slice (some ⟨b0,0,none⟩) 11 11),(29,.int .i64 p1)]) (i:=5) (v:=.pointer (elP (some ⟨b0,0,none⟩) 1 p1.toNat 0)) (EnvSub.cons rfl (EnvSub.cons rfl (EnvSub.nil _))) rfl ah (Ev.indexAddr (xs:=tabK) rfl rfl ab ab ab) ac ?_
     refine GF.evS (env₀:=[(30,.pointer (elP (some ⟨b0,0,none⟩) 1 p1.toNat 0))]) (i:=6) (v:=.int .i64 tabK[p1.toNat]!) (EnvSub.cons rfl (EnvSub.nil _)) rfl ah (Ev.a6 (xs:=tabK) rfl ab ac rfl) ac ?_
     exact GF.conseq ah aj (Ent.refl _) (ih ⟨some b0,none,[p1,p2,p3,p4],⟨h1,h2,h3,h4⟩⟩ (Nat.le_of_ble_eq_true rfl))
    ·refine GE.ef rfl (Ef.a6 (bF ad xs.length c xs rfl hx (6*(i:Int)+5) 3 ab ab) rfl) ac ?_
     rintro _ _ ⟨p5,rfl,h5,rfl⟩
     refine ⟨(by intro pe hp;cases hp),?_⟩
     refine GF.evP (i:=24) rfl ah (Ev.add rfl rfl ab ab) ac ?_
     exact GF.conseq ah aj (Ent.refl _) (ih ⟨none,none,[p1,p2,p3,p4,p5],⟨h1,h2,h3,h4,h5⟩⟩ (Nat.le_of_ble_eq_true rfl))
    ·refine GE.ef rfl Ef.alloc ac ?_
     rintro _ _ ⟨b9,rfl,rfl⟩
     refine ⟨(by intro pe hp;cases hp),?_⟩
     exact GF.conseq ah aj ae (ih ⟨none,some b9,[p1,p2,p3,p4],⟨h1,h2,h3,h4⟩⟩ (Nat.le_of_ble_eq_true rfl))
   ·dsimp only [opsL,opsE,opsP,List.nil_append,List.cons_append]
    obtain ⟨h1,h2,h3,h4,h5⟩:=hps
    change GF _ _ _ _ 6 _ _ _ _
    refine GF.a6 0 27 ah ?_ ?_
    ·refine GE.ef rfl (Ef.lit rfl rfl ac rfl) ac ?_
     rintro _ _ ⟨b0,rfl,rfl⟩
     refine ⟨(by intro pe hp;cases hp),?_⟩
     refine GF.ent (L':=osl (encZ .i64) 1 tInt (some ⟨b0,0,none⟩) 11 tabK::osl cJ 6 tOp ad' cap' ops::L) (Ent.trans (Ent.c6 (enc:=encZ .i64) (sz:=1) (xs:=tabK) rfl rfl (fun _ _=>rfl) ac) ae) ?_
     refine GF.evS (env₀:=[(25,.slice (some ⟨b0,0,none⟩) 11 11),(29,.int .i64 p1)]) (i:=5) (v:=.pointer (elP (some ⟨b0,0,none⟩) 1 p1.toNat 0)) (EnvSub.cons rfl (EnvSub.cons rfl (EnvSub.nil _))) rfl ah (Ev.indexAddr (xs:=tabK) rfl rfl ab ab ab) ac ?_
     refine GF.evS (env₀:=[(30,.pointer (elP (some ⟨b0,0,none⟩) 1 p1.toNat 0))]) (i:=6) (v:=.int .i64 tabK[p1.toNat]!) (EnvSub.cons rfl (EnvSub.nil _)) rfl ah (Ev.a6 (xs:=tabK) rfl ab ac rfl) ac ?_
     refine GF.evP (i:=26) rfl ah (Ev.build rfl rfl) ac ?_
     exact GF.conseq ah aj (Ent.refl _) (ih ⟨some b0,none,[p1,p2,p3,p4,p5],⟨h1,h2,h3,h4,h5⟩⟩ (Nat.le_of_ble_eq_true rfl))
    ·refine GE.ef rfl Ef.alloc ac ?_
     rintro _ _ ⟨b9,rfl,rfl⟩
     refine ⟨(by intro pe hp;cases hp),?_⟩
     exact GF.conseq ah aj ae (ih ⟨none,some b9,[p1,p2,p3,p4,p5],⟨h1,h2,h3,h4,h5⟩⟩ (Nat.le_of_ble_eq_true rfl))
   ·exact hps.elim
  ·rcases ps with _|⟨p1,_|⟨p2,_|⟨p3,_|⟨p4,_|⟨p5,_|⟨p6,r⟩⟩⟩⟩⟩⟩
   ·dsimp only [opsL,opsE,opsP,List.nil_append,List.cons_append]
    change GF _ _ _ _ 12 _ _ _ _
    refine GF.a6 0 4 ah ?_ ?_
    ·refine GE.ef rfl (Ef.lit rfl rfl ac rfl) ac ?_
     rintro _ _ ⟨b0,rfl,rfl⟩
     refine ⟨(by intro pe hp;cases hp),?_⟩
     refine GF.ent (L':=obj b9 tOp [.int .i64 0,.int .i64 0,.int .i64 0,.int .i64 0,.int .i64 0,.int .i64 0]::osl (encZ .i64) 1 tInt (some ⟨b0,0,none⟩) 11 tabK::osl cJ 6 tOp ad' cap' ops::L) (Ent.trans (Ent.c6 (enc:=encZ .i64) (sz:=1) (xs:=tabK) rfl rfl (fun _ _=>rfl) ac) ae) ?_
     exact GF.conseq ah aj (Ent.refl _) (ih ⟨some b0,some b9,[],trivial⟩ (Nat.le_of_ble_eq_true rfl))
    ·refine GE.ef rfl (Ef.a6 (bF ad xs.length c xs rfl hx (6*(i:Int)+1) 11 ab ab) rfl) ac ?_
     rintro _ _ ⟨p1,rfl,h1,rfl⟩
     refine ⟨(by intro pe hp;cases hp),?_⟩
     exact GF.conseq ah aj (Ent.refl _) (ih ⟨none,some b9,[p1],h1⟩ (Nat.le_of_ble_eq_true rfl))
   ·dsimp only [opsL,opsE,opsP,List.nil_append,List.cons_append]
    have h1:0≤p1∧p1<11:=hps
    change GF _ _ _ _ 11 _ _ _ _
    refine GF.a6 0 10 ah ?_ ?_
    ·refine GE.ef rfl (Ef.lit rfl rfl ac rfl) ac ?_
     rintro _ _ ⟨b0,rfl,rfl⟩
     refine ⟨(by intro pe hp;cases hp),?_⟩
     refine GF.ent (L':=obj b9 tOp [.int .i64 0,.int .i64 0,.int .i64 0,.int .i64 0,.int .i64 0,.int .i64 0]::osl (encZ .i64) 1 tInt (some ⟨b0,0,none⟩) 11 tabK::osl cJ 6 tOp ad' cap' ops::L) (Ent.trans (Ent.c6 (enc:=encZ .i64) (sz:=1) (xs:=tabK) rfl rfl (fun _ _=>rfl) ac) ae) ?_
     refine GF.evS (env₀:=[(25,.slice (some ⟨b0,0,none⟩) 11 11),(29,.int .i64 p1)]) (i:=5) (v:=.pointer (elP (some ⟨b0,0,none⟩) 1 p1.toNat 0)) (EnvSub.cons rfl (EnvSub.cons rfl (EnvSub.nil _))) rfl ah (Ev.indexAddr (xs:=tabK) rfl rfl ab ab ab) ac ?_
     refine GF.evS (env₀:=[(30,.pointer (elP (some ⟨b0,0,none⟩) 1 p1.toNat 0))]) (i:=6) (v:=.int .i64 tabK[p1.toNat]!) (EnvSub.cons rfl (EnvSub.nil _)) rfl ah (Ev.a6 (xs:=tabK) rfl ab ac rfl) ac ?_
     exact GF.conseq ah aj (Ent.refl _) (ih ⟨some b0,some b9,[p1],h1⟩ (Nat.le_of_ble_eq_true rfl))
    ·refine GE.ef rfl (Ef.a6 (bF ad xs.length c xs rfl hx (6*(i:Int)+2) 3 ab ab) rfl) ac ?_
     rintro _ _ ⟨p2,rfl,h2,rfl⟩
     refine ⟨(by intro pe hp;cases hp),?_⟩
     refine GF.evP (i:=11) rfl ah (Ev.add rfl rfl ab ab) ac ?_
     exact GF.conseq ah aj (Ent.refl _) (ih ⟨none,some b9,[p1,p2],⟨h1,h2⟩⟩ (Nat.le_of_ble_eq_true rfl))
   ·dsimp only [opsL,opsE,opsP,List.nil_append,List.cons_append]
    obtain ⟨h1,h2⟩:=hps
    change GF _ _ _ _ 9 _ _ _ _
    refine GF.a6 0 15 ah ?_ ?_
    ·refine GE.ef rfl (Ef.lit rfl rfl ac rfl) ac ?_
     rintro _ _ ⟨b0,rfl,rfl⟩
     refine ⟨(by intro pe hp;cases hp),?_⟩
     refine GF.ent (L':=obj b9 tOp [.int .i64 0,.int .i64 0,.int .i64 0,.int .i64 0,.int .i64 0,.int .i64 0]::osl (encZ .i64) 1 tInt (some ⟨b0,0,none⟩) 11 tabK::osl cJ 6 tOp ad' cap' ops::L) (Ent.trans (Ent.c6 (enc:=encZ .i64) (sz:=1) (xs:=tabK) rfl rfl (fun _ _=>rfl) ac) ae) ?_
     refine GF.evS (env₀:=[(25,.slice (some ⟨b0,0,none⟩) 11 11),(29,.int .i64 p1)]) (i:=5) (v:=.pointer (elP (some ⟨b0,0,none⟩) 1 p1.toNat 0)) (EnvSub.cons rfl (EnvSub.cons rfl (EnvSub.nil _))) rfl ah (Ev.indexAddr (xs:=tabK) rfl rfl ab ab ab) ac ?_
     refine GF.evS (env₀:=[(30,.pointer (elP (some ⟨b0,0,none⟩) 1 p1.toNat 0))]) (i:=6) (v:=.int .i64 tabK[p1.toNat]!) (EnvSub.cons rfl (EnvSub.nil _)) rfl ah (Ev.a6 (xs:=tabK) rfl ab ac rfl) ac ?_
     exact GF.conseq ah aj (Ent.refl _) (ih ⟨some b0,some b9,[p1,p2],⟨h1,h2⟩⟩ (Nat.le_of_ble_eq_true rfl))
    ·refine GE.ef rfl (Ef.a6 (bF ad xs.length c xs rfl hx (6*(i:Int)+3) 6 ab ab) rfl) ac ?_
     rintro _ _ ⟨p3,rfl,h3,rfl⟩
     refine ⟨(by intro pe hp;cases hp),?_⟩
     exact GF.conseq ah aj (Ent.refl _) (ih ⟨none,some b9,[p1,p2,p3],⟨h1,h2,h3⟩⟩ (Nat.le_of_ble_eq_true rfl))
   ·dsimp only [opsL,opsE,opsP,List.nil_append,List.cons_append]
    obtain ⟨h1,h2,h3⟩:=hps
    change GF _ _ _ _ 8 _ _ _ _
    refine GF.a6 0 19 ah ?_ ?_
    ·refine GE.ef rfl (Ef.lit rfl rfl ac rfl) ac ?_
     rintro _ _ ⟨b0,rfl,rfl⟩
     refine ⟨(by intro pe hp;cases hp),?_⟩
     refine GF.ent (L':=obj b9 tOp [.int .i64 0,.int .i64 0,.int .i64 0,.int .i64 0,.int .i64 0,.int .i64 0]::osl (encZ .i64) 1 tInt (some ⟨b0,0,none⟩) 11 tabK::osl cJ 6 tOp ad' cap' ops::L) (Ent.trans (Ent.c6 (enc:=encZ .i64) (sz:=1) (xs:=tabK) rfl rfl (fun _ _=>rfl) ac) ae) ?_
     refine GF.evS (env₀:=[(25,.slice (some ⟨b0,0,none⟩) 11 11),(29,.int .i64 p1)]) (i:=5) (v:=.pointer (elP (some ⟨b0,0,none⟩) 1 p1.toNat 0)) (EnvSub.cons rfl (EnvSub.cons rfl (EnvSub.nil _))) rfl ah (Ev.indexAddr (xs:=tabK) rfl rfl ab ab ab) ac ?_
     refine GF.evS (env₀:=[(30,.pointer (elP (some ⟨b0,0,none⟩) 1 p1.toNat 0))]) (i:=6) (v:=.int .i64 tabK[p1.toNat]!) (EnvSub.cons rfl (EnvSub.nil _)) rfl ah (Ev.a6 (xs:=tabK) rfl ab ac rfl) ac ?_
     exact GF.conseq ah aj (Ent.refl _) (ih ⟨some b0,some b9,[p1,p2,p3],⟨h1,h2,h3⟩⟩ (Nat.le_of_ble_eq_true rfl))
    ·refine GE.ef rfl (Ef.a6 (bF ad xs.length c xs rfl hx (6*(i:Int)+4) 5 ab ab) rfl) ac ?_
     rintro _ _ ⟨p4,rfl,h4,rfl⟩
     refine ⟨(by intro pe hp;cases hp),?_⟩
     exact GF.conseq ah aj (Ent.refl _) (ih ⟨none,some b9,[p1,p2,p3,p4],⟨h1,h2,h3,h4⟩⟩ (Nat.le_of_ble_eq_true rfl))
   ·dsimp only [opsL,opsE,opsP,List.nil_append,List.cons_append]
    obtain ⟨h1,h2,h3,h4⟩:=hps
    change GF _ _ _ _ 7 _ _ _ _
    refine GF.a6 0 23 ah ?_ ?_
    ·refine GE.ef rfl (Ef.lit rfl rfl ac rfl) ac ?_
     rintro _ _ ⟨b0,rfl,rfl⟩
     refine ⟨(by intro pe hp;cases hp),?_⟩
     refine GF.ent (L':=obj b9 tOp [.int .i64 0,.int .i64 0,.int .i64 0,.int .i64 0,.int .i64 0,.int .i64 0]::osl (encZ .i64) 1 tInt (some ⟨b0,0,none⟩) 11 tabK::osl cJ 6 tOp ad' cap' ops::L) (Ent.trans (Ent.c6 (enc:=encZ .i64) (sz:=1) (xs:=tabK) rfl rfl (fun _ _=>rfl) ac) ae) ?_
     refine GF.evS (env₀:=[(25,.slice (some ⟨b0,0,none⟩) 11 11),(29,.int .i64 p1)]) (i:=5) (v:=.pointer (elP (some ⟨b0,0,none⟩) 1 p1.toNat 0)) (EnvSub.cons rfl (EnvSub.cons rfl (EnvSub.nil _))) rfl ah (Ev.indexAddr (xs:=tabK) rfl rfl ab ab ab) ac ?_
     refine GF.evS (env₀:=[(30,.pointer (elP (some ⟨b0,0,none⟩) 1 p1.toNat 0))]) (i:=6) (v:=.int .i64 tabK[p1.toNat]!) (EnvSub.cons rfl (EnvSub.nil _)) rfl ah (Ev.a6 (xs:=tabK) rfl ab ac rfl) ac ?_
     exact GF.conseq ah aj (Ent.refl _) (ih ⟨some b0,some b9,[p1,p2,p3,p4],⟨h1,h2,h3,h4⟩⟩ (Nat.le_of_ble_eq_true rfl))
    ·refine GE.ef rfl (Ef.a6 (bF ad xs.length c xs rfl hx (6*(i:Int)+5) 3 ab ab) rfl) ac ?_
     rintro _ _ ⟨p5,rfl,h5,rfl⟩
     refine ⟨(by intro pe hp;cases hp),?_⟩
     refine GF.evP (i:=24) rfl ah (Ev.add rfl rfl ab ab) ac ?_
     exact GF.conseq ah aj (Ent.refl _) (ih ⟨none,some b9,[p1,p2,p3,p4,p5],⟨h1,h2,h3,h4,h5⟩⟩ (Nat.le_of_ble_eq_true rfl))
   ·dsimp only [opsL,opsE,opsP,List.nil_append,List.cons_append]
    obtain ⟨h1,h2,h3,h4,h5⟩:=hps
    change GF _ _ _ _ 5 _ _ _ _
    refine GF.a7 [0] ah rfl (fun q hq=>?_)
    obtain rfl:=List.mem_singleton.1 hq
    refine GE.ef rfl (Ef.lit rfl rfl ac rfl) ac ?_
    rintro _ _ ⟨b0,rfl,rfl⟩
    refine ⟨(by intro pe hp;cases hp),?_⟩
    refine GF.ent (L':=obj b9 tOp [.int .i64 0,.int .i64 0,.int .i64 0,.int .i64 0,.int .i64 0,.int .i64 0]::osl (encZ .i64) 1 tInt (some ⟨b0,0,none⟩) 11 tabK::osl cJ 6 tOp ad' cap' ops::L) (Ent.trans (Ent.c6 (enc:=encZ .i64) (sz:=1) (xs:=tabK) rfl rfl (fun _ _=>rfl) ac) ae) ?_
    refine GF.evS (env₀:=[(25,.slice (some ⟨b0,0,none⟩) 11 11),(29,.int .i64 p1)]) (i:=5) (v:=.pointer (elP (some ⟨b0,0,none⟩) 1 p1.toNat 0)) (EnvSub.cons rfl (EnvSub.cons rfl (EnvSub.nil _))) rfl ah (Ev.indexAddr (xs:=tabK) rfl rfl ab ab ab) ac ?_
    refine GF.evS (env₀:=[(30,.pointer (elP (some ⟨b0,0,none⟩) 1 p1.toNat 0))]) (i:=6) (v:=.int .i64 tabK[p1.toNat]!) (EnvSub.cons rfl (EnvSub.nil _)) rfl ah (Ev.a6 (xs:=tabK) rfl ab ac rfl) ac ?_
    refine GF.evP (i:=26) rfl ah (Ev.build rfl rfl) ac ?_
    exact GF.conseq ah aj (Ent.refl _) (ih ⟨some b0,some b9,[p1,p2,p3,p4,p5],⟨h1,h2,h3,h4,h5⟩⟩ (Nat.le_of_ble_eq_true rfl))
   ·exact hps.elim
  ·rcases ps with _|⟨p1,_|⟨p2,_|⟨p3,_|⟨p4,_|⟨p5,_|⟨p6,r⟩⟩⟩⟩⟩⟩
   ·dsimp only [opsL,opsE,opsP,List.nil_append,List.cons_append]
    change GF _ _ _ _ 12 _ _ _ _
    refine GF.a6 4 27 ah ?_ ?_
    ·refine GE.ef rfl (Ef.a6 (bF ad xs.length c xs rfl hx (6*(i:Int)+1) 11 ab ab) rfl) ac ?_
     rintro _ _ ⟨p1,rfl,h1,rfl⟩
     refine ⟨(by intro pe hp;cases hp),?_⟩
     refine GF.evS (env₀:=[(25,.slice (some ⟨b0,0,none⟩) 11 11),(29,.int .i64 p1)]) (i:=5) (v:=.pointer (elP (some ⟨b0,0,none⟩) 1 p1.toNat 0)) (EnvSub.cons rfl (EnvSub.cons rfl (EnvSub.nil _))) rfl ah (Ev.indexAddr (xs:=tabK) rfl rfl ab ab ab) ac ?_
     refine GF.evS (env₀:=[(30,.pointer (elP (some ⟨b0,0,none⟩) 1 p1.toNat 0))]) (i:=6) (v:=.int .i64 tabK[p1.toNat]!) (EnvSub.cons rfl (EnvSub.nil _)) rfl ah (Ev.a6 (xs:=tabK) rfl ab ac rfl) ac ?_
     exact GF.conseq ah aj (Ent.refl _) (ih ⟨some b0,none,[p1],h1⟩ (Nat.le_of_ble_eq_true rfl))
    ·refine GE.ef rfl Ef.alloc ac ?_
     rintro _ _ ⟨b9,rfl,rfl⟩
     refine ⟨(by intro pe hp;cases hp),?_⟩
     exact GF.conseq ah aj ae (ih ⟨some b0,some b9,[],trivial⟩ (Nat.le_of_ble_eq_true rfl))
   ·dsimp only [opsL,opsE,opsP,List.nil_append,List.cons_append]
    have h1:0≤p1∧p1<11:=hps
    change GF _ _ _ _ 9 _ _ _ _
    refine GF.a6 10 27 ah ?_ ?_
    ·refine GE.ef rfl (Ef.a6 (bF ad xs.length c xs rfl hx (6*(i:Int)+2) 3 ab ab) rfl) ac ?_
     rintro _ _ ⟨p2,rfl,h2,rfl⟩
     refine ⟨(by intro pe hp;simp only [List.mem_cons,List.not_mem_nil,or_false] at hp;rcases hp with rfl|rfl;exact Ev.a6 (xs:=tabK) rfl ab ac rfl;exact Ev.indexAddr (xs:=tabK) rfl rfl ab ab ab),?_⟩
     refine GF.evP (i:=11) rfl ah (Ev.add rfl rfl ab ab) ac ?_
     exact GF.conseq ah aj (Ent.refl _) (ih ⟨some b0,none,[p1,p2],⟨h1,h2⟩⟩ (Nat.le_of_ble_eq_true rfl))
    ·refine GE.ef rfl Ef.alloc ac ?_
     rintro _ _ ⟨b9,rfl,rfl⟩
     refine ⟨(by intro pe hp;simp only [List.mem_cons,List.not_mem_nil,or_false] at hp;rcases hp with rfl|rfl;exact Ev.a6 (xs:=tabK) rfl ab ac rfl;exact Ev.indexAddr (xs:=tabK) rfl rfl ab ab ab),?_⟩
     exact GF.conseq ah aj ae (ih ⟨some b0,some b9,[p1],h1⟩ (Nat.le_of_ble_eq_true rfl))
   ·dsimp only [opsL,opsE,opsP,List.nil_append,List.cons_append]
    obtain ⟨h1,h2⟩:=hps
    change GF _ _ _ _ 7 _ _ _ _
    refine GF.a6 15 27 ah ?_ ?_
    ·refine GE.ef rfl (Ef.a6 (bF ad xs.length c xs rfl hx (6*(i:Int)+3) 6 ab ab) rfl) ac ?_
     rintro _ _ ⟨p3,rfl,h3,rfl⟩
     refine ⟨(by intro pe hp;simp only [List.mem_cons,List.not_mem_nil,or_false] at hp;rcases hp with rfl|rfl;exact Ev.a6 (xs:=tabK) rfl ab ac rfl;exact Ev.indexAddr (xs:=tabK) rfl rfl ab ab ab),?_⟩
     exact GF.conseq ah aj (Ent.refl _) (ih ⟨some b0,none,[p1,p2,p3],⟨h1,h2,h3⟩⟩ (Nat.le_of_ble_eq_true rfl))
    ·refine GE.ef rfl Ef.alloc ac ?_
     rintro _ _ ⟨b9,rfl,rfl⟩
     refine ⟨(by intro pe hp;simp only [List.mem_cons,List.not_mem_nil,or_false] at hp;rcases hp with rfl|rfl;exact Ev.a6 (xs:=tabK) rfl ab ac rfl;exact Ev.indexAddr (xs:=tabK) rfl rfl ab ab ab),?_⟩
     exact GF.conseq ah aj ae (ih ⟨some b0,some b9,[p1,p2],⟨h1,h2⟩⟩ (Nat.le_of_ble_eq_true rfl))
   ·dsimp only [opsL,opsE,opsP,List.nil_append,List.cons_append]
    obtain ⟨h1,h2,h3⟩:=hps
    change GF _ _ _ _ 6 _ _ _ _
    refine GF.a6 19 27 ah ?_ ?_
    ·refine GE.ef rfl (Ef.a6 (bF ad xs.length c xs rfl hx (6*(i:Int)+4) 5 ab ab) rfl) ac ?_
     rintro _ _ ⟨p4,rfl,h4,rfl⟩
     refine ⟨(by intro pe hp;simp only [List.mem_cons,List.not_mem_nil,or_false] at hp;rcases hp with rfl|rfl;exact Ev.a6 (xs:=tabK) rfl ab ac rfl;exact Ev.indexAddr (xs:=tabK) rfl rfl ab ab ab),?_⟩
     exact GF.conseq ah aj (Ent.refl _) (ih ⟨some b0,none,[p1,p2,p3,p4],⟨h1,h2,h3,h4⟩⟩ (Nat.le_of_ble_eq_true rfl))
    ·refine GE.ef rfl Ef.alloc ac ?_
     rintro _ _ ⟨b9,rfl,rfl⟩
     refine ⟨(by intro pe hp;simp only [List.mem_cons,List.not_mem_nil,or_false] at hp;rcases hp with rfl|rfl;exact Ev.a6 (xs:=tabK) rfl ab ac rfl;exact Ev.indexAddr (xs:=tabK) rfl rfl ab ab ab),?_⟩
     exact GF.conseq ah aj ae (ih ⟨some b0,some b9,[p1,p2,p3],⟨h1,h2,h3⟩⟩ (Nat.le_of_ble_eq_true rfl))
   ·dsimp only [opsL,opsE,opsP,List.nil_append,List.cons_append]
    obtain ⟨h1,h2,h3,h4⟩:=hps
    change GF _ _ _ _ 5 _ _ _ _
    refine GF.a6 23 27 ah ?_ ?_
    ·refine GE.ef rfl (Ef.a6 (bF ad xs.length c xs rfl hx (6*(i:Int)+5) 3 ab ab) rfl) ac ?_
     rintro _ _ ⟨p5,rfl,h5,rfl⟩
     refine ⟨(by intro pe hp;simp only [List.mem_cons,List.not_mem_nil,or_false] at hp;rcases hp with rfl|rfl;exact Ev.a6 (xs:=tabK) rfl ab ac rfl;exact Ev.indexAddr (xs:=tabK) rfl rfl ab ab ab),?_⟩
     refine GF.evP (i:=24) rfl ah (Ev.add rfl rfl ab ab) ac ?_
     refine GF.evP (i:=26) rfl ah (Ev.build rfl rfl) ac ?_
     exact GF.conseq ah aj (Ent.refl _) (ih ⟨some b0,none,[p1,p2,p3,p4,p5],⟨h1,h2,h3,h4,h5⟩⟩ (Nat.le_of_ble_eq_true rfl))
    ·refine GE.ef rfl Ef.alloc ac ?_
     rintro _ _ ⟨b9,rfl,rfl⟩
     refine ⟨(by intro pe hp;simp only [List.mem_cons,List.not_mem_nil,or_false] at hp;rcases hp with rfl|rfl;exact Ev.a6 (xs:=tabK) rfl ab ac rfl;exact Ev.indexAddr (xs:=tabK) rfl rfl ab ab ab),?_⟩
     exact GF.conseq ah aj ae (ih ⟨some b0,some b9,[p1,p2,p3,p4],⟨h1,h2,h3,h4⟩⟩ (Nat.le_of_ble_eq_true rfl))
   ·dsimp only [opsL,opsE,opsP,List.nil_append,List.cons_append]
    obtain ⟨h1,h2,h3,h4,h5⟩:=hps
    change GF _ _ _ _ 2 _ _ _ _
    refine GF.a7 [27] ah rfl (fun q hq=>?_)
    obtain rfl:=List.mem_singleton.1 hq
    refine GE.ef rfl Ef.alloc ac ?_
    rintro _ _ ⟨b9,rfl,rfl⟩
    refine ⟨(by intro pe hp;simp only [List.mem_cons,List.not_mem_nil,or_false] at hp;rcases hp with rfl|rfl;exact Ev.a6 (xs:=tabK) rfl ab ac rfl;exact Ev.indexAddr (xs:=tabK) rfl rfl ab ab ab),?_⟩
    exact GF.conseq ah aj ae (ih ⟨some b0,some b9,[p1,p2,p3,p4,p5],⟨h1,h2,h3,h4,h5⟩⟩ (Nat.le_of_ble_eq_true rfl))
   ·exact hps.elim
  ·rcases ps with _|⟨p1,_|⟨p2,_|⟨p3,_|⟨p4,_|⟨p5,_|⟨p6,r⟩⟩⟩⟩⟩⟩
   ·dsimp only [opsL,opsE,opsP,List.nil_append,List.cons_append]
    change GF _ _ _ _ 11 _ _ _ _
    refine GF.a7 [4] ah rfl (fun q hq=>?_)
    obtain rfl:=List.mem_singleton.1 hq
    refine GE.ef rfl (Ef.a6 (bF ad xs.length c xs rfl hx (6*(i:Int)+1) 11 ab ab) rfl) ac ?_
    rintro _ _ ⟨p1,rfl,h1,rfl⟩
    refine ⟨(by intro pe hp;cases hp),?_⟩
    refine GF.evS (env₀:=[(25,.slice (some ⟨b0,0,none⟩) 11 11),(29,.int .i64 p1)]) (i:=5) (v:=.pointer (elP (some ⟨b0,0,none⟩) 1 p1.toNat 0)) (EnvSub.cons rfl (EnvSub.cons rfl (EnvSub.nil _))) rfl ah (Ev.indexAddr (xs:=tabK) rfl rfl ab ab ab) ac ?_
    refine GF.evS (env₀:=[(30,.pointer (elP (some ⟨b0,0,none⟩) 1 p1.toNat 0))]) (i:=6) (v:=.int .i64 tabK[p1.toNat]!) (EnvSub.cons rfl (EnvSub.nil _)) rfl ah (Ev.a6 (xs:=tabK) rfl ab ac rfl) ac ?_
    exact GF.conseq ah aj (Ent.refl _) (ih ⟨some b0,some b9,[p1],h1⟩ (Nat.le_of_ble_eq_true rfl))
   ·dsimp only [opsL,opsE,opsP,List.nil_append,List.cons_append]
    have h1:0≤p1∧p1<11:=hps
    change GF _ _ _ _ 8 _ _ _ _
    refine GF.a7 [10] ah rfl (fun q hq=>?_)
    obtain rfl:=List.mem_singleton.1 hq
    refine GE.ef rfl (Ef.a6 (bF ad xs.length c xs rfl hx (6*(i:Int)+2) 3 ab ab) rfl) ac ?_
    rintro _ _ ⟨p2,rfl,h2,rfl⟩
    refine ⟨(by intro pe hp;simp only [List.mem_cons,List.not_mem_nil,or_false] at hp;rcases hp with rfl|rfl;exact Ev.a6 (xs:=tabK) rfl ab ac rfl;exact Ev.indexAddr (xs:=tabK) rfl rfl ab ab ab),?_⟩
    refine GF.evP (i:=11) rfl ah (Ev.add rfl rfl ab ab) ac ?_
    exact GF.conseq ah aj (Ent.refl _) (ih ⟨some b0,some b9,[p1,p2],⟨h1,h2⟩⟩ (Nat.le_of_ble_eq_true rfl))
   ·dsimp only [opsL,opsE,opsP,List.nil_append,List.cons_append]
    obtain ⟨h1,h2⟩:=hps
    change GF _ _ _ _ 6 _ _ _ _
    refine GF.a7 [15] ah rfl (fun q hq=>?_)
    obtain rfl:=List.mem_singleton.1 hq
    refine GE.ef rfl (Ef.a6 (bF ad xs.length c xs rfl hx (6*(i:Int)+3) 6 ab ab) rfl) ac ?_
    rintro _ _ ⟨p3,rfl,h3,rfl⟩
    refine ⟨(by intro pe hp;simp only [List.mem_cons,List.not_mem_nil,or_false] at hp;rcases hp with rfl|rfl;exact Ev.a6 (xs:=tabK) rfl ab ac rfl;exact Ev.indexAddr (xs:=tabK) rfl rfl ab ab ab),?_⟩
    exact GF.conseq ah aj (Ent.refl _) (ih ⟨some b0,some b9,[p1,p2,p3],⟨h1,h2,h3⟩⟩ (Nat.le_of_ble_eq_true rfl))
   ·dsimp only [opsL,opsE,opsP,List.nil_append,List.cons_append]
    obtain ⟨h1,h2,h3⟩:=hps
    change GF _ _ _ _ 5 _ _ _ _
    refine GF.a7 [19] ah rfl (fun q hq=>?_)
    obtain rfl:=List.mem_singleton.1 hq
    refine GE.ef rfl (Ef.a6 (bF ad xs.length c xs rfl hx (6*(i:Int)+4) 5 ab ab) rfl) ac ?_
    rintro _ _ ⟨p4,rfl,h4,rfl⟩
    refine ⟨(by intro pe hp;simp only [List.mem_cons,List.not_mem_nil,or_false] at hp;rcases hp with rfl|rfl;exact Ev.a6 (xs:=tabK) rfl ab ac rfl;exact Ev.indexAddr (xs:=tabK) rfl rfl ab ab ab),?_⟩
    exact GF.conseq ah aj (Ent.refl _) (ih ⟨some b0,some b9,[p1,p2,p3,p4],⟨h1,h2,h3,h4⟩⟩ (Nat.le_of_ble_eq_true rfl))
   ·dsimp only [opsL,opsE,opsP,List.nil_append,List.cons_append]
    obtain ⟨h1,h2,h3,h4⟩:=hps
    change GF _ _ _ _ 4 _ _ _ _
    refine GF.a7 [23] ah rfl (fun q hq=>?_)
    obtain rfl:=List.mem_singleton.1 hq
    refine GE.ef rfl (Ef.a6 (bF ad xs.length c xs rfl hx (6*(i:Int)+5) 3 ab ab) rfl) ac ?_
    rintro _ _ ⟨p5,rfl,h5,rfl⟩
    refine ⟨(by intro pe hp;simp only [List.mem_cons,List.not_mem_nil,or_false] at hp;rcases hp with rfl|rfl;exact Ev.a6 (xs:=tabK) rfl ab ac rfl;exact Ev.indexAddr (xs:=tabK) rfl rfl ab ab ab),?_⟩
    refine GF.evP (i:=24) rfl ah (Ev.add rfl rfl ab ab) ac ?_
    refine GF.evP (i:=26) rfl ah (Ev.build rfl rfl) ac ?_
    exact GF.conseq ah aj (Ent.refl _) (ih ⟨some b0,some b9,[p1,p2,p3,p4,p5],⟨h1,h2,h3,h4,h5⟩⟩ (Nat.le_of_ble_eq_true rfl))
   ·dsimp only [opsL,opsE,opsP,List.nil_append,List.cons_append]
    obtain ⟨h1,h2,h3,h4,h5⟩:=hps
    have hkb:=EL p1.toNat ab
    refine GF.plan [.ef 28] ah rfl ?_
    repeat first|refine aa ?_|intro _
    exact ⟨(⟨tabK[p1.toNat]!,1+p2,p3,p4,1+p5,tk2⟩,b9),⟨hkb,by dsimp only;omega,by dsimp only;omega,by dsimp only;omega,by unfold I64;dsimp only;omega,ht3⟩,aj,by exact ae⟩
   ·exact hps.elim
 rintro ⟨o,b9⟩ hok
 dsimp only at hok ⊢
 have hcl:tabC.length=5:=rfl
 have hal:tabA.length=4:=rfl
 obtain ⟨hk1,hk2⟩:=hok.kind
 refine G.a8 (α:=OpM) (fun o=>OpOk o) (fun _=>[(0,.slice ad xs.length c),(1,.int .i64 (m:Int)),(5,.slice ad' ops.length cap'),(6,.int .i64 tk2),(7,.int .i64 (i:Int)),(8,.int .i64 (6*(i:Int))),(9,.pointer (some ⟨b9,0,none⟩))]) (fun o=>obj b9 tOp [.int .i64 o.kind,.int .i64 o.acc,.int .i64 o.a,.int .i64 o.b,.int .i64 o.c,.int .i64 o.tick]::osl cJ 6 tOp ad' cap' ops::L) ?_ ?_
 ·by_cases h4:(i:Int)<4
  ·repeat first|refine aa ?_|intro _
   exact ⟨{ o with kind:=3,a:=0,c:=3 },⟨by dsimp only;omega,hok.acc,by dsimp only;omega,hok.b,by unfold I64;dsimp only;omega,hok.tick⟩,aj,by exact ae⟩
  ·repeat first|refine aa ?_|intro _
   exact ⟨o,hok,aj,by exact ae⟩
 clear hok hk1 hk2 o
 rintro o hok
 refine G.a8 (α:=OpM) (fun o=>OpOk o) (fun _=>[(0,.slice ad xs.length c),(1,.int .i64 (m:Int)),(5,.slice ad' ops.length cap'),(6,.int .i64 tk2),(7,.int .i64 (i:Int)),(8,.int .i64 (6*(i:Int))),(9,.pointer (some ⟨b9,0,none⟩))]) (fun o=>obj b9 tOp [.int .i64 o.kind,.int .i64 o.acc,.int .i64 o.a,.int .i64 o.b,.int .i64 o.c,.int .i64 o.tick]::osl cJ 6 tOp ad' cap' ops::L) ?_ ?_
 ·by_cases h3:o.kind=3
  ·repeat first|refine aa ?_|intro _
   refine GO.ef (Ef.a6 (bF ad xs.length c xs rfl hx (6*(i:Int)+4) 4 ab ab) rfl) ac ?_
   rintro _ _ ⟨p,rfl,⟨pa,pb⟩,rfl⟩
   by_cases hp:p>0
   ·repeat first|refine aa ?_|intro _
    exact ⟨{ o with a:=0 },⟨hok.kind,hok.acc,by dsimp only;omega,hok.b,hok.c,hok.tick⟩,aj,by exact ae⟩
   ·repeat first|refine aa ?_|intro _
    exact ⟨o,hok,aj,by exact ae⟩
  ·repeat first|refine aa ?_|intro _
   exact ⟨o,hok,aj,by exact ae⟩
 clear hok o
 rintro o hok
 refine G.a8 (α:=OpM) (fun o=>OpOk o) (fun _=>[(0,.slice ad xs.length c),(1,.int .i64 (m:Int)),(5,.slice ad' ops.length cap'),(6,.int .i64 tk2),(7,.int .i64 (i:Int)),(8,.int .i64 (6*(i:Int))),(9,.pointer (some ⟨b9,0,none⟩))]) (fun o=>obj b9 tOp [.int .i64 o.kind,.int .i64 o.acc,.int .i64 o.a,.int .i64 o.b,.int .i64 o.c,.int .i64 o.tick]::osl cJ 6 tOp ad' cap' ops::L) ?_ ?_
 ·repeat first|refine aa ?_|intro _
  refine GO.ef (Ef.a6 (bF ad xs.length c xs rfl hx (6*(i:Int)+5) 23 ab ab) rfl) ac ?_
  rintro _ _ ⟨p,rfl,⟨pa,pb⟩,rfl⟩
  by_cases hp:p=7
  ·repeat first|refine aa ?_|intro _
   exact ⟨{ o with tick:=max 0 (tk2 - 3) },⟨hok.kind,hok.acc,hok.a,hok.b,hok.c,by dsimp only;omega⟩,aj,by exact ae⟩
  ·repeat first|refine aa ?_|intro _
   exact ⟨o,hok,aj,by exact ae⟩
 clear hok o
 rintro o hok
 refine G.a8 (α:=OpM) (fun o=>OpOk o) (fun _=>[(0,.slice ad xs.length c),(1,.int .i64 (m:Int)),(5,.slice ad' ops.length cap'),(6,.int .i64 tk2),(7,.int .i64 (i:Int)),(8,.int .i64 (6*(i:Int))),(9,.pointer (some ⟨b9,0,none⟩))]) (fun o=>obj b9 tOp [.int .i64 o.kind,.int .i64 o.acc,.int .i64 o.a,.int .i64 o.b,.int .i64 o.c,.int .i64 o.tick]::osl cJ 6 tOp ad' cap' ops::L) ?_ ?_
 ·repeat first|refine aa ?_|intro _
  refine GO.ef (Ef.a6 (bF ad xs.length c xs rfl hx (6*(i:Int)+5) 29 ab ab) rfl) ac ?_
  rintro _ _ ⟨p,rfl,⟨pa,pb⟩,rfl⟩
  by_cases hp:p=7
  ·repeat first|refine aa ?_|intro _
   rename_i bt
   refine GO.ent (Ent.c6 (enc:=encZ .i64) (sz:=1) (xs:=tabC) rfl rfl (fun _ _=>rfl) ac) ?_
   refine GO.ef (Ef.a6 (bF ad xs.length c xs rfl hx (6*(i:Int)+4) 5 ab ab) rfl) ac ?_
   rintro _ _ ⟨q,rfl,⟨qa,qb⟩,rfl⟩
   have hqb:=EM q.toNat ab
   repeat first|refine aa ?_|intro _
   exact ⟨{ o with c:=tabC[q.toNat]! },⟨hok.kind,hok.acc,hok.a,hok.b,hqb,hok.tick⟩,aj,by exact ae⟩
  ·repeat first|refine aa ?_|intro _
   exact ⟨o,hok,aj,by exact ae⟩
 clear hok o
 rintro o hok
 refine G.a8 (α:=OpM) (fun o=>OpOk o) (fun _=>[(0,.slice ad xs.length c),(1,.int .i64 (m:Int)),(5,.slice ad' ops.length cap'),(6,.int .i64 tk2),(7,.int .i64 (i:Int)),(8,.int .i64 (6*(i:Int))),(9,.pointer (some ⟨b9,0,none⟩))]) (fun o=>obj b9 tOp [.int .i64 o.kind,.int .i64 o.acc,.int .i64 o.a,.int .i64 o.b,.int .i64 o.c,.int .i64 o.tick]::osl cJ 6 tOp ad' cap' ops::L) ?_ ?_
 ·repeat first|refine aa ?_|intro _
  refine GO.ef (Ef.a6 (bF ad xs.length c xs rfl hx (6*(i:Int)+2) 31 ab ab) rfl) ac ?_
  rintro _ _ ⟨p,rfl,⟨pa,pb⟩,rfl⟩
  by_cases hp:p=7
  ·repeat first|refine aa ?_|intro _
   rename_i bt
   refine GO.ent (Ent.c6 (enc:=encZ .i64) (sz:=1) (xs:=tabA) rfl rfl (fun _ _=>rfl) ac) ?_
   refine GO.ef (Ef.a6 (bF ad xs.length c xs rfl hx (6*(i:Int)+4) 4 ab ab) rfl) ac ?_
   rintro _ _ ⟨q,rfl,⟨qa,qb⟩,rfl⟩
   have hqb:=EN q.toNat ab
   repeat first|refine aa ?_|intro _
   exact ⟨{ o with acc:=tabA[q.toNat]! },⟨hok.kind,hqb,hok.a,hok.b,hok.c,hok.tick⟩,aj,by exact ae⟩
  ·repeat first|refine aa ?_|intro _
   exact ⟨o,hok,aj,by exact ae⟩
 clear hok o
 rintro o hok
 repeat first|refine aa ?_|intro _
 refine GO.ef (Ef.a7 (enc:=cJ) (e:=o) rfl rfl rfl rfl rfl (by rfl) (CT _) ab ab) ac ?_
 rintro _ _ ⟨ad3,cap3,rfl,rfl⟩
 repeat first|refine aa ?_|intro _
 refine ⟨(i+1,tk2,ops++[o],ad3,cap3),⟨by dsimp only;omega,by dsimp only;omega,by dsimp only;rw [List.length_append,List.length_singleton];omega,fun q hq=>?_⟩,by dsimp only;omega,?_,by exact ae⟩
 ·rcases List.mem_append.1 hq with hq|hq
  ·exact ho q hq
  ·rw [List.mem_singleton.1 hq]
   exact hok
 ·dsimp only
  rw [show ((i+1:Nat):Int)=(i:Int)+1 by omega]
  exact aj
end
section
theorem Dp (n:Int):dy (aR n)∧(aR n).length≤4096:=⟨kb n,by show 3≤4096;omega⟩
theorem Dk (n:Int):(bO (aR n)).Ok:=⟨Dp n,Nat.zero_le _,⟨Int.le_refl _,by show (0:Int)<100;omega⟩,⟨Int.le_refl _,by show (0:Int)≤1099511627776;omega⟩,fun k hk=>absurd hk (Nat.not_lt_zero k),fun k hk=>absurd hk (Nat.not_lt_zero k)⟩
theorem run0 (n:Int):RunI 0 (led0 3 cat16) (bO (aR n)):=⟨jk ac,cat16_good,mQ,Dk n,Nat.le_refl _,Int.le_refl _,fun k hk=>absurd hk (Nat.not_lt_zero k)⟩
theorem su (rb:Nat) (c:CatV) (hcm:c.m=cat16) (hB:c.B) {L:List HP}:Ent (obj rb tRL (rl0 3 c)::catP c::L) (aW rb (led0 3 cat16)::L):=by
 refine Ent.trans ?_ (df (b:=rb) (S:=led0 3 cat16) ⟨c,[],none,0,[],none,0,[],none,0⟩ ⟨hcm,hB,rfl,rfl,fun _ _=>rfl,fun _=>rfl,(fun s hs=>by cases hs),Nat.le_refl _,List.nodup_nil,(fun f hf=>by cases hf),Int.le_refl _⟩)
 simp only [rlL,az]
 refine (Ent.a7 eZ 3 tRS).trans ((Ent.a7 bH 11 cz).trans ((Ent.a7 aK 7 cy).trans ?_))
 refine (Ent.c7 rsP).trans ((Ent.c7 flP).trans ((Ent.c7 fx).trans ?_))
 show Ent _ (obj rb tRL (rl0 3 c)::_)
 exact ae
theorem qm (mb rb sb:Nat) (n:Int) {L:List HP}:Ent (obj mb tRY [.pointer (some ⟨rb,0,none⟩),.slice (some ⟨sb,0,none⟩) 3 3,.slice none 0 0,.int .i64 0,.int .i64 0]::osl (encZ .u8) 1 jZ (some ⟨sb,0,none⟩) 3 (aR n)::L) (cZ mb rb (bO (aR n))::L):=by
 refine Ent.trans ?_ (ed (yb:=mb) (lb:=rb) (Y:=bO (aR n)) ⟨some ⟨sb,0,none⟩,3,none,0⟩)
 simp only [ryL]
 refine (Ent.frz (some ⟨sb,0,none⟩)).trans ((Ent.a7 aq 10 tRJ).trans ?_)
 show Ent _ (obj mb tRY [.pointer (some ⟨rb,0,none⟩),.slice (some ⟨sb,0,none⟩) 3 3,.slice none 0 0,.int .i64 0,.int .i64 0]::isl (encZ .u8) 1 (some ⟨sb,0,none⟩) (aR n)::osl aq 10 tRJ none 0 []::L)
 exact ae
theorem Em {S:LedM} {Y:YardM} {tick:Int}:(advM S Y tick).1.length≤Y.jobs.length:=by
 by_cases h:aV Y.tick S.now tick
 ·obtain ⟨ids,hids⟩:=eR Y.jobs tick
  rw [ga h hids,List.length_map]
  exact hids.len
 ·rw [eA h]
  exact Nat.zero_le _
theorem yR {S:LedM} {Y:YardM} {o:OpM} (h:Y.jobs.length≤60):(doM S Y o).1.l.length≤60:=by
 have ha:=Em (S:=S) (Y:=Y) (tick:=o.tick)
 by_cases k0:o.kind=0
 ·rw [tV k0 rfl];exact Nat.zero_le _
 by_cases k1:o.kind=1
 ·rw [tU k1 rfl];exact Nat.zero_le _
 by_cases k2:o.kind=2
 ·rw [Bl k2 rfl];exact Nat.le_trans ha h
 by_cases k3:o.kind=3
 ·rw [Bk k3 rfl];exact Nat.zero_le _
 by_cases k4:o.kind=4
 ·rw [Bj k4 rfl];exact Nat.zero_le _
 ·rw [Bi k0 k1 k2 k3 k4];exact Nat.zero_le _
attribute [local irreducible] doM runS
abbrev Cn:List Stp:=[.ev 0,.ev 1,.ev 2,.ev 3,.ev 4,.ev 5,.ev 7,.ev 8,.ev 9,.ev 10,.ev 11,.ef 6,.ef 12,.ef 13,.ev 14]
theorem eK {φ ψ:Prop} (k:ψ) (h:Hid ψ→φ:=by intro k;(with_reducible apply G.a7);first|refine G.a6 (N:=47) (id:=8) Cn mixed ah (Hid.out k)):φ:=h ⟨k⟩
theorem lZ {L:List HP} (seed:Int) (hs:I64 seed) (ad:Option Addr) (n c:Nat) (xs:List Int) [hrd:Rds L ad Int (encZ .i64) 1 xs] (hn:n=xs.length) (hx:∀ x∈xs,I64 x) :
  Tri Tryz.prog 23 #[.int .i64 seed,.slice ad n c] (aP::L) (fun v L'=>∃ yb lb ops,v=.tuple #[.pointer (some ⟨yb,0,none⟩),.pointer (some ⟨lb,0,none⟩),.bool true]∧(ops.length=18∧∀ o∈ops,OpOk o)∧L' = bz yb lb (runS (led0 3 cat16) (bO (aR seed)) ops 18).2::LedR lb (runS (led0 3 cat16) (bO (aR seed)) ops 18).1::aP::L):=by
 subst hn
 refine Tri.body (args:=[.int .i64 seed,.slice ad xs.length c]) 47 en23 Tryz.func23 rfl rfl rfl (by simp) ?_
 repeat first|refine aa ?_|intro _|refine eK ?_
 refine GO.ef (Ef.a6 (th seed hs) rfl) ac ?_
 rintro _ _ ⟨yb,lb,mb,rb,sb,c0,rfl,⟨hcm,hB⟩,rfl⟩
 refine GO.ent (L':=bz yb lb (bO (aR seed))::LedR lb (led0 3 cat16)::cZ mb rb (bO (aR seed))::aW rb (led0 3 cat16)::aP::L) ?_ ?_
 ·refine Ent.trans (B:=obj mb tRY [.pointer (some ⟨rb,0,none⟩),.slice (some ⟨sb,0,none⟩) 3 3,.slice none 0 0,.int .i64 0,.int .i64 0]::osl (encZ .u8) 1 jZ (some ⟨sb,0,none⟩) 3 (aR seed)::obj rb tRL (rl0 3 c0)::catP c0::bz yb lb (bO (aR seed))::LedR lb (led0 3 cat16)::aP::L) ae ?_
  refine (qm mb rb sb seed).trans ?_
  refine Ent.trans (B:=obj rb tRL (rl0 3 c0)::catP c0::cZ mb rb (bO (aR seed))::bz yb lb (bO (aR seed))::LedR lb (led0 3 cat16)::aP::L) ae ?_
  refine (su rb c0 hcm hB).trans ?_
  exact ae
 repeat first|refine aa ?_|intro _|refine eK ?_
 refine GO.ef (Ef.a6 (uU ad xs.length c xs rfl hx 18 (Nat.le_refl _)) rfl) ac ?_
 rintro _ _ ⟨oad,ocap,ops,rfl,⟨hol,hoo⟩,rfl⟩
 have hinv:=fM (run0 seed) (ops:=ops) ab hoo
 repeat first|refine aa ?_|intro _|refine eK ?_
 refine G.loop (α:=Nat) (fun i=>i≤18) (fun i=>[(7,.pointer (some ⟨yb,0,none⟩)),(8,.pointer (some ⟨lb,0,none⟩)),(9,.pointer (some ⟨mb,0,none⟩)),(11,.slice oad ops.length ocap),(12,.int .i64 (i:Int))]) (fun i=>bz yb lb (runS (led0 3 cat16) (bO (aR seed)) ops i).2::LedR lb (runS (led0 3 cat16) (bO (aR seed)) ops i).1::cZ mb rb (runS (led0 3 cat16) (bO (aR seed)) ops i).2::aW rb (runS (led0 3 cat16) (bO (aR seed)) ops i).1::osl cJ 6 tOp oad ocap ops::aP::L) (fun i=>18 - i) 0 (Nat.zero_le _) aj (by rw [so];exact ae) ?_
 intro i hi
 have hI:=hinv i ab
 by_cases hlt:i<18
 case neg =>
  obtain rfl:i=18:=ab
  repeat first|refine aa ?_|intro _|refine eK ?_
  exact KX.a6 ai ae ⟨yb,lb,ops,rfl,⟨hol,hoo⟩,rfl⟩
 have hlt2:i<ops.length:=ab
 have hsu:=gc (S:=led0 3 cat16) (Y:=bO (aR seed)) hlt2
 have hok:=hoo _ (ap hlt2)
 have hii:(i:Int).toNat=i:=Int.toNat_natCast i
 obtain ⟨q,hq⟩:∃ q,runS (led0 3 cat16) (bO (aR seed)) ops i=q:=⟨_,rfl⟩
 rw [hq] at hI hsu ⊢
 obtain ⟨S,Y⟩:=q
 dsimp only at hI hsu ⊢
 have hrl:=yR (S:=S) (o:=ops[i]!) hI.yok.len
 have hd:=yQ (L:=[]) yb lb Y S hI ops[i]! hok
 have hr:=uv (L:=[]) mb rb Y S hI ops[i]! hok
 obtain ⟨d,hdd⟩:∃ d,doM S Y ops[i]! = d:=⟨_,rfl⟩
 rw [hdd] at hrl hsu hd hr
 have hlt' : (i:Int).toNat<ops.length:=ab
 rw [← hii] at hd hr
 repeat first|refine aa ?_|intro _|refine eK ?_
 (first|refine GPW.ef (Ef.call (hd) rfl (by repeat (first|exact Ent.refl _|apply Ent.take))) ac ?_)
 rintro _ _ ⟨_,⟨ad1,cap1,rfl,rfl⟩,hL⟩
 simp only [List.cons_append,List.nil_append] at hL;subst hL
 repeat first|refine aa ?_|intro _|refine eK ?_
 (first|refine GPW.ef (Ef.call (hr) rfl (by repeat (first|exact Ent.refl _|apply Ent.take))) ac ?_)
 rintro _ _ ⟨_,⟨ad2,cap2,rfl,rfl⟩,hL⟩
 simp only [List.cons_append,List.nil_append] at hL;subst hL
 repeat first|refine aa ?_|intro _|refine eK ?_
 refine GPW.ef (Ef.a6 (nt d.1 ad1 ad2 cap1 cap2 ab) rfl) ac ?_
 rintro _ _ ⟨rfl,rfl⟩
 repeat first|refine aa ?_|intro _|refine eK ?_
 refine ⟨i+1,ab,ab,?_,?_⟩
 ·rw [show ((i+1:Nat):Int)=(i:Int)+1 by omega]
  exact aj
 ·rw [hsu]
  exact ae
end
end Go.Proofs.YtfmgkkofledkbaaGreatDoor
namespace Go.Proofs.YtfmgkkofledkbaaGreatDoor
open Go.V
attribute [local irreducible] tryM aI cL gbM da dH dc dg endJ
structure TimeI (rs:List RuM) (js:List JobM):Prop where
 fin:∀ k,k<js.length→js[k]!.fin=js[k]!.beg+rs[js[k]!.rule.toNat]!.time
 lap:∀ i k,i<k→k<js.length→js[i]!.done=false→js[k]!.done=false→js[i]!.acc=js[k]!.acc→js[i]!.fin≤js[k]!.beg
theorem TimeI.set {rs:List RuM} {js:List JobM} (h:TimeI rs js) {k:Nat} {j:JobM} (hj:k<js.length→SameJ js[k]! j) (hd:j.done=true):TimeI rs (js.set k j):=by
 by_cases hk:k<js.length
 case neg =>
  rw [List.set_eq_of_length_le ab]
  exact h
 have hg:∀ i,i<js.length→SameJ js[i]! (js.set k j)[i]!∧((js.set k j)[i]!.done=false→js[i]!.done=false):=by
  intro i hi
  rw [dj hi]
  by_cases e:i=k
  ·rw [if_pos e,e]
   exact ⟨hj hk,fun q=>by rw [hd] at q;cases q⟩
  ·rw [if_neg e]
   exact ⟨⟨rfl,rfl,rfl,rfl,rfl,rfl,rfl⟩,fun q=>q⟩
 constructor
 ·intro i hi
  rw [List.length_set] at hi
  obtain ⟨h1,_⟩:=hg i hi
  rw [h1.fin,h1.beg,h1.rule]
  exact h.fin i hi
 ·intro i q hiq hq d1 d2 ha
  rw [List.length_set] at hq
  obtain ⟨h1,h2⟩:=hg i ab
  obtain ⟨h3,h4⟩:=hg q hq
  rw [h1.fin,h3.beg]
  rw [h1.acc,h3.acc] at ha
  exact h.lap i q hiq hq (h2 d1) (h4 d2) ha
theorem TimeI.a6 {rs:List RuM} {tick:Int}:∀ (ids:List Nat) (p:LedM×YardM),TimeI rs p.2.jobs→TimeI rs (ids.foldl (endM tick) p).2.jobs
 | [],_,h=>h
 | k::ids,p,h=>TimeI.a6 ids (endM tick p k) (h.set (fun _=>(jO _ _ _ _).1) (jO _ _ _ _).2)
theorem rW {js:List JobM}:∀ (ids:List Int) (t:Int),t≤begM js ids t∧∀ k∈ids,js[k.toNat]!.fin≤begM js ids t
 | [],t=>⟨Int.le_refl _,fun k hk=>by cases hk⟩
 | i::ids,t=>by
  obtain ⟨h1,h2⟩:=rW (js:=js) ids (max t js[i.toNat]!.fin)
  have e:begM js (i::ids) t=begM js ids (max t js[i.toNat]!.fin):=rfl
  rw [e]
  refine ⟨ab,fun k hk=>?_⟩
  rcases List.mem_cons.1 hk with rfl|hk
  ·omega
  ·exact h2 k hk
theorem TimeI.start {S:LedM} {Y:YardM} (h:TimeI S.cat.rules Y.jobs) (acc level rule times tick:Int):TimeI S.cat.rules (bC S Y acc level rule times tick).2.2.jobs:=by
 rcases eF S Y acc level rule times tick with ⟨e,_⟩|⟨_,_,_,_,_,e⟩
 ·rw [e]
  exact h
 rw [e]
 dsimp only
 obtain ⟨bg,hbg⟩:∃ bg,begM Y.jobs (aG Y.jobs acc) tick=bg:=⟨_,rfl⟩
 have hge:=(rW (js:=Y.jobs) (aG Y.jobs acc) tick).2
 rw [hbg] at hge ⊢
 constructor
 ·intro k hk
  rw [List.length_append,List.length_singleton] at hk
  rw [fa hk]
  by_cases e2:k=Y.jobs.length
  ·rw [if_pos e2]
  ·rw [if_neg e2]
   exact h.fin k ab
 ·intro i k hik hk d1 d2 ha
  rw [List.length_append,List.length_singleton] at hk
  have hi:i<Y.jobs.length+1:=ab
  rw [fa hi] at d1 ha ⊢
  rw [if_neg ab] at d1 ha ⊢
  rw [fa hk] at d2 ha ⊢
  by_cases e2:k=Y.jobs.length
  ·rw [if_pos e2] at ha ⊢
   have hm:(i:Int)∈aG Y.jobs acc:=openIds_mem.2 ⟨i,rfl,ab,ha,d1⟩
   have:=hge _ hm
   rw [Int.toNat_natCast] at this
   exact this
  ·rw [if_neg e2] at d2 ha ⊢
   exact h.lap i k hik ab d1 d2 ha
theorem TimeI.step {S:LedM} {Y:YardM} (h:TimeI S.cat.rules Y.jobs) (o:OpM):TimeI S.cat.rules (doM S Y o).2.2.jobs:=by
 by_cases k0:o.kind=0
 ·unfold doM
  rw [if_pos k0]
  exact h.start _ _ _ _ _
 by_cases k1:o.kind=1
 ·unfold doM
  rw [if_neg k0,if_pos k1]
  unfold ba
  split
  ·exact h
  ·split
   ·exact h
   ·split
    ·exact h
    ·split
     ·exact h
     ·exact h.set (fun _=>nQ _) rfl
 by_cases k2:o.kind=2
 ·unfold doM
  rw [if_neg k0,if_neg k1,if_pos k2]
  by_cases ht:aV Y.tick S.now o.tick
  ·unfold advM
   rw [if_neg (fun q=>q ht)]
   exact TimeI.a6 _ (S,{ Y with tick:=o.tick }) h
  ·rw [eA ht]
   exact h
 by_cases k3:o.kind=3
 ·unfold doM
  rw [if_neg k0,if_neg k1,if_neg k2,if_pos k3]
  unfold bI
  split
  ·exact h
  ·split
   ·exact h
   ·dsimp only
    split
    ·exact h
    ·exact h
 by_cases k4:o.kind=4
 ·unfold doM
  rw [if_neg k0,if_neg k1,if_neg k2,if_neg k3,if_pos k4]
  obtain ⟨table,htb⟩:∃ t,o.a / 4=t:=⟨_,rfl⟩
  rw [htb]
  by_cases h1:aM o.acc∧aV Y.tick S.now o.tick
  case neg =>
   rw [fm h1]
   exact h
  by_cases h2:0≤table∧table<S.cat.tables.length
  case neg =>
   rw [eH h1.1 h1.2 h2]
   exact h
  obtain ⟨p,hp⟩:∃ p,p=dg (dc Y.seed Y.loots) (S.cat.tables[table.toNat]!.rows.map (·.weight)) 0:=⟨_,rfl⟩
  rw [fO h1.1 h1.2 h2 rfl rfl hp]
  clear hp
  generalize S.cat.tables[table.toNat]!.rows[p.1.toNat]!.give=gv
  by_cases h3:p.2.1=0
  case neg =>
   rw [if_pos h3]
   exact h
  rw [if_neg (fun q=>q h3)]
  by_cases h4:gv.length=0
  case pos =>
   rw [if_pos h4]
   exact h
  rw [if_neg h4]
  by_cases h5:(tryM S (cK o.acc gv 1 o.tick)).1=0
  case neg =>
   rw [if_pos h5]
   exact h
  rw [if_neg (fun q=>q h5)]
  exact h
 ·unfold doM
  rw [if_neg k0,if_neg k1,if_neg k2,if_neg k3,if_neg k4]
  exact h
theorem En {n:Nat} {S:LedM} {Y:YardM} (h:RunI n S Y) (tick:Int):(advM S Y tick).2.1.cat=S.cat:=by
 by_cases ht:aV Y.tick S.now tick
 ·obtain ⟨ids,hids⟩:=eR Y.jobs tick
  rw [ga ht hids]
  exact (iy h.sok h.yok h.rul (fK h.yok ht) hids ids.length).cat
 ·rw [eA ht]
theorem oA {n:Nat} {S:LedM} {Y:YardM} (h:RunI n S Y) (o:OpM):(doM S Y o).2.1.cat=S.cat:=by
 by_cases k0:o.kind=0
 ·unfold doM
  rw [if_pos k0]
  rcases eF S Y o.acc o.b o.a o.c o.tick with ⟨e,_⟩|⟨_,_,_,_,_,e⟩
  ·rw [e]
  ·rw [e]
   dsimp only
   split
   ·rfl
   ·exact ej _ _
 by_cases k1:o.kind=1
 ·unfold doM
  rw [if_neg k0,if_pos k1]
  unfold ba
  split
  ·rfl
  ·split
   ·rfl
   ·split
    ·rfl
    ·split
     ·rfl
     ·exact (lH h.sok _).2
 by_cases k2:o.kind=2
 ·unfold doM
  rw [if_neg k0,if_neg k1,if_pos k2]
  exact En h _
 by_cases k3:o.kind=3
 ·unfold doM
  rw [if_neg k0,if_neg k1,if_neg k2,if_pos k3]
  unfold bI
  split
  ·rfl
  ·split
   ·rfl
   ·exact ej _ _
 by_cases k4:o.kind=4
 ·unfold doM
  rw [if_neg k0,if_neg k1,if_neg k2,if_neg k3,if_pos k4]
  obtain ⟨table,htb⟩:∃ t,o.a / 4=t:=⟨_,rfl⟩
  rw [htb]
  by_cases h1:aM o.acc∧aV Y.tick S.now o.tick
  case neg=>rw [fm h1]
  by_cases h2:0≤table∧table<S.cat.tables.length
  case neg=>rw [eH h1.1 h1.2 h2]
  obtain ⟨p,hp⟩:∃ p,p=dg (dc Y.seed Y.loots) (S.cat.tables[table.toNat]!.rows.map (·.weight)) 0:=⟨_,rfl⟩
  rw [fO h1.1 h1.2 h2 rfl rfl hp]
  clear hp
  generalize S.cat.tables[table.toNat]!.rows[p.1.toNat]!.give=gv
  by_cases h3:p.2.1=0
  case neg=>rw [if_pos h3]
  rw [if_neg (fun q=>q h3)]
  by_cases h4:gv.length=0
  case pos=>rw [if_pos h4]
  rw [if_neg h4]
  by_cases h5:(tryM S (cK o.acc gv 1 o.tick)).1=0
  case neg=>rw [if_pos h5]
  rw [if_neg (fun q=>q h5)]
  exact ej _ _
 ·unfold doM
  rw [if_neg k0,if_neg k1,if_neg k2,if_neg k3,if_neg k4]
  exact ej _ _
theorem gJ {S:LedM} {Y:YardM} (h:RunI 0 S Y) {ops:List OpM} (hl:ops.length≤50) (ho:∀ o∈ops,OpOk o):∀ n,n≤ops.length→(runS S Y ops n).1.cat=S.cat
 | 0,_=>rfl
 | n+1,hn=>by
  rw [gc ab]
  have hI:=fM h hl ho n ab
  exact (oA hI _).trans (gJ h hl ho n ab)
theorem sq {S:LedM} {Y:YardM} (h:RunI 0 S Y) (ht:TimeI S.cat.rules Y.jobs) {ops:List OpM} (hl:ops.length≤50) (ho:∀ o∈ops,OpOk o):∀ n,n≤ops.length→TimeI S.cat.rules (runS S Y ops n).2.jobs
 | 0,_=>ht
 | n+1,hn=>by
  have hc:=gJ h hl ho n ab
  have ih:=sq h ht hl ho n ab
  rw [gc ab]
  rw [← hc] at ih ⊢
  exact ih.step _
theorem rH (js:List JobM) (a:Int):(aG js a).Pairwise (·<·):=by
 unfold aG
 rw [List.pairwise_map]
 refine (List.Pairwise.filter _ List.pairwise_lt_range).imp (fun {x y} h=>?_)
 omega
theorem AL {js:List JobM} {a:Int} {i k:Nat} (hik:i<k) (hk:k<(aG js a).length):(aG js a)[i]! < (aG js a)[k]!:=by
 have h:=List.pairwise_iff_getElem.1 (rH js a) i k ab hk hik
 rw [getElem!_of ab,getElem!_of hk]
 exact h
end Go.Proofs.YtfmgkkofledkbaaGreatDoor
