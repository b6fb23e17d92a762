/- Lemmas and contracts of functions, in the order: V1, V2, V3, V4, V5, V6, V7. -/
import Derived.WalkKit
import Derived.Orders
import Derived.Deep.LoopGhost
import Derived.OrdersIn
import Derived.TacticsIn
import Derived.RangeFuncLeaves
import Derived.Maps.AppendAt
import Derived.OrdersHeld
import Derived.Laws.BytesArg
import Derived.Laws.Strings
import Derived.Laws.MakeOwn
set_option linter.all false
namespace Go.V
abbrev Hp:=Nat→Option Obj
def Hp.sub (a b:Hp):Prop:=∀ k o,a k=some o→b k=some o
def Hp.disj (a b:Hp):Prop:=∀ k o,a k=some o→b k=none
def Hp.a8 (a b:Hp):Hp:=fun k=>(a k).or (b k)
def Hp.emp:Hp:=fun _=>none
theorem Hp.sub.refl (a:Hp):Hp.sub a a:=fun _ _ h=>h
theorem Hp.sub.trans {a b c:Hp} (h:Hp.sub a b) (k:Hp.sub b c):Hp.sub a c:=fun i o x=>k i o (h i o x)
theorem Hp.disj.symm {a b:Hp} (h:Hp.disj a b):Hp.disj b a:=by
 intro k o hb
 cases ha:a k with
 | none=>rfl
 | some x=>have:=h k x ha;rw [hb] at this;cases this
theorem Hp.disj.mono {a b a' b' : Hp} (h:Hp.disj a b) (ha:Hp.sub a' a) (hb:Hp.sub b' b):Hp.disj a' b':=by
 intro k o x
 have h1:=h k o (ha k o x)
 cases hk:b' k with
 | none=>rfl
 | some y=>have:=hb k y hk;rw [h1] at this;cases this
theorem Hp.a7 (a:Hp):Hp.disj Hp.emp a:=fun _ _ h=>by cases h
theorem Hp.a6 (a:Hp):Hp.sub Hp.emp a:=fun _ _ h=>by cases h
theorem Hp.c7 (a b:Hp):Hp.sub a (Hp.a8 a b):=fun k o h=>by simp [Hp.a8,h]
theorem Hp.c6 {a b:Hp} (h:Hp.disj a b):Hp.sub b (Hp.a8 a b):=fun k o hk=>by
 have:=h.symm k o hk
 simp [Hp.a8,this,hk]
theorem Hp.c9 {a b c:Hp} (h:Hp.sub a c) (h' : Hp.sub b c):Hp.sub (Hp.a8 a b) c:=by
 intro k o hk
 unfold Hp.a8 at hk
 cases ha:a k with
 | none=>rw [ha] at hk;exact h' k o (by simpa using hk)
 | some x=>rw [ha] at hk;simp at hk;subst hk;exact h k x ha
theorem Hp.c8 {a b c:Hp} (h:Hp.disj a b) (h' : Hp.disj a c):Hp.disj a (Hp.a8 b c):=by
 intro k o hk
 simp [Hp.a8,h k o hk,h' k o hk]
abbrev HP:=Hp→Hp→Prop
def Stars:List HP→Hp→Hp→Prop
 | [],_,_=>True
 | p::L,ι,h=>∃ ι₀ h₁ h₂,Hp.sub ι₀ ι∧Hp.disj h₁ h₂∧Hp.sub h₁ h∧Hp.sub h₂ h∧p ι₀ h₁∧Stars L ι h₂
theorem Stars.mono {L:List HP} {ι ι' h h' : Hp} (hi:Hp.sub ι ι') (hh:Hp.sub h h') (s:Stars L ι h):Stars L ι' h':=by
 induction L generalizing h h' with
 | nil=>trivial
 | cons p L ih =>
  obtain ⟨ι₀,h₁,h₂,a,b,c,d,e,f⟩:=s
  exact ⟨ι₀,h₁,h₂,a.trans hi,b,c.trans hh,d.trans hh,e,ih (Hp.sub.refl _) f⟩
theorem Stars.swap {p q:HP} {L:List HP} {ι h:Hp} (s:Stars (p::q::L) ι h):Stars (q::p::L) ι h:=by
 obtain ⟨ι₁,h₁,h₂,a1,b1,c1,d1,e1,ι₂,h₃,h₄,a2,b2,c2,d2,e2,f2⟩:=s
 have h14:Hp.disj h₁ h₄:=b1.mono (Hp.sub.refl _) d2
 refine ⟨ι₂,h₃,Hp.a8 h₁ h₄,a2,Hp.c8 (b1.mono (Hp.sub.refl _) c2).symm b2,c2.trans d1,Hp.c9 c1 (d2.trans d1),e2,?_⟩
 exact ⟨ι₁,h₁,h₄,a1,h14,Hp.c7 _ _,Hp.c6 h14,e1,f2⟩
theorem Stars.perm {L L' : List HP} (hp:L.Perm L'):∀ {ι h:Hp},Stars L ι h→Stars L' ι h:=by
 induction hp with
 | nil=>exact fun s=>s
 | cons p _ ih=>exact fun ⟨ι₀,h₁,h₂,a,b,c,d,e,f⟩=>⟨ι₀,h₁,h₂,a,b,c,d,e,ih f⟩
 | swap p q l=>exact fun s=>s.swap
 | trans _ _ ih1 ih2=>exact fun s=>ih2 (ih1 s)
theorem Stars.split {A B:List HP} {ι h:Hp} (s:Stars (A++B) ι h):∃ h₁ h₂,Hp.disj h₁ h₂∧Hp.sub h₁ h∧Hp.sub h₂ h∧Stars A ι h₁∧Stars B ι h₂:=by
 induction A generalizing h with
 | nil=>exact ⟨Hp.emp,h,Hp.a7 _,Hp.a6 _,Hp.sub.refl _,trivial,s⟩
 | cons p A ih =>
  obtain ⟨ι₀,x₁,x₂,a,b,c,d,e,f⟩:=s
  obtain ⟨y₁,y₂,g1,g2,g3,g4,g5⟩:=ih f
  have h1:Hp.disj x₁ y₁:=b.mono (Hp.sub.refl _) g2
  refine ⟨Hp.a8 x₁ y₁,y₂,(Hp.c8 (b.mono (Hp.sub.refl _) g3).symm g1.symm).symm,Hp.c9 c (g2.trans d),g3.trans d,?_,g5⟩
  exact ⟨ι₀,x₁,y₁,a,h1,Hp.c7 _ _,Hp.c6 h1,e,g4⟩
theorem Stars.a6 {A B:List HP} {ι h h₁ h₂:Hp} (hd:Hp.disj h₁ h₂) (s1:Hp.sub h₁ h) (s2:Hp.sub h₂ h) (a:Stars A ι h₁) (b:Stars B ι h₂):Stars (A++B) ι h:=by
 induction A generalizing h h₁ with
 | nil=>exact b.mono (Hp.sub.refl _) s2
 | cons p A ih =>
  obtain ⟨ι₀,x₁,x₂,a1,b1,c1,d1,e1,f1⟩:=a
  have hd2:Hp.disj x₂ h₂:=hd.mono d1 (Hp.sub.refl _)
  refine ⟨ι₀,x₁,Hp.a8 x₂ h₂,a1,Hp.c8 b1 (hd.mono c1 (Hp.sub.refl _)),c1.trans s1,Hp.c9 (d1.trans s1) s2,e1,?_⟩
  exact ih hd2 (Hp.c7 _ _) (Hp.c6 hd2) f1
structure Th where
 tape:Nat→Question→Nat
 os:Os
 output:Array (Nat×ByteArray)
 lo:Nat
structure Th.ok (θ:Th) (w:World):Prop where
 tape:w.tape=θ.tape
 os:w.os=θ.os
 output:w.output=θ.output
 drawn:θ.lo≤w.drawn
theorem Dc {α:Type}:∀ (m:Ask α) (w:World),w.drawn≤(w.ask m).2.drawn:=by
 intro m
 induction m with
 | done a=>intro w;exact Nat.le_refl _
 | ask what range k ih =>
  intro w
  simp only [World.ask]
  split
  ·exact ih _ w
  ·exact Nat.le_trans (Nat.le_succ _) (ih _ { w with drawn:=w.drawn+1 })
theorem pW {p:Program} {w w' : World} {at_:Addr} {u:TypeId} {k:Addr} {v:Value} {atomic:Bool} {l:List Addr} (h:w.viewStore p at_ u k v atomic=.ok (w',l)):w'.drawn=w.drawn:=by
 simp only [World.viewStore,bind,Except.bind,pure,Except.pure,throw,throwThe,MonadExceptOf.throw] at h
 repeat' (split at h)
 all_goals first|(simp only [Except.ok.injEq,Prod.mk.injEq] at h;obtain ⟨rfl,_⟩:=h;rfl)|cases h
theorem sn {α:Type} {P:Program}:∀ (m:Sem α) {w w' : World} {x:α},m.run P w=.ok x w'→w.drawn≤w'.drawn:=by
 intro m
 induction m with
 | pure a=>intro w w' x h;simp only [Sem.run,Result.ok.injEq] at h;obtain ⟨_,rfl⟩:=h;exact Nat.le_refl _
 | load m a k ih =>
  intro w w' x h
  simp only [Sem.run] at h
  split at h
  ·exact ih _ h
  ·split at h
   ·exact ih _ h
   ·cases h
 | store m a v k ih =>
  intro w w' x h
  have go:(match w.cell? a with
    | some _ => if w.frozen? a then .halt (.unsupported (.unsafePointer "a write to bytes that a string shares")) w else k.run P (w.setCell a v)
    | none=>match w.farStore P a v (m == .atomic) with
     | .ok (w,_)=>k.run P w
     | .error h=>.halt h w)=Result.ok x w'→w.drawn≤w'.drawn:=by
   intro h
   split at h
   ·split at h
    ·cases h
    ·exact ih (w:=w.setCell a v) h
   ·split at h
    ·rename_i h2
     unfold World.farStore at h2
     split at h2
     ·split at h2
      ·rename_i h3
       cases h2
       have:=pW h3
       have:=ih h
       omega
      ·cases h2
     ·cases h2
    ·cases h
  cases v
  all_goals first|exact go h|(simp only [Sem.run] at h;cases h)
 | new o k ih=>intro w w' x h;exact ih _ (w:={ w with heap:=w.heap.push o }) h
 | shape r k ih=>intro w w' x h;exact ih _ h
 | freeze a n k ih =>
  intro w w' x h
  have h1:=ih (w:=w.freeze a n) h
  have h2:(w.freeze a n).drawn=w.drawn:=by unfold World.freeze;split<;>rfl
  omega
 | frozen a k ih=>intro w w' x h;exact ih _ h
 | getObj r k ih =>
  intro w w' x h
  simp only [Sem.run] at h
  split at h
  ·cases h
  ·exact ih _ h
  ·cases h
 | setObj r o k ih =>
  intro w w' x h
  simp only [Sem.run] at h
  split at h
  ·cases h
  ·exact ih (w:={ w with heap:=w.heap.setIfInBounds r o }) h
  ·cases h
 | choose q k ih =>
  intro w w' x h
  simp only [Sem.run] at h
  split at h
  ·exact ih _ h
  ·exact Nat.le_trans (Nat.le_succ _) (ih _ h)
 | sys c k ih =>
  intro w w' x h
  simp only [Sem.run] at h
  have h1:=ih _ h
  refine Nat.le_trans ?_ h1
  unfold World.sys
  have h2:=Dc (Kernel.perform c w.os) w
  split
  ·exact Nat.le_refl _
  ·rename_i heq
   rw [heq] at h2
   exact h2
 | program k ih=>intro w w' x h;exact ih _ h
 | mark m k ih=>intro w w' x h;exact ih h
 | halt h=>intro w w' x h;cases h
def el (w:World):Hp:=fun k=>w.heap[k]?
def Sat (θ:Th) (L:List HP) (w:World):Prop :=
 θ.ok w∧∃ ι h,Hp.disj ι h∧Hp.sub ι (el w)∧Hp.sub h (el w)∧Stars L ι h
theorem Sat.perm {θ:Th} {L L' : List HP} {w:World} (s:Sat θ L w) (hp:L.Perm L'):Sat θ L' w :=
 let ⟨h0,ι,h,a,b,c,d⟩:=s;⟨h0,ι,h,a,b,c,d.perm hp⟩
theorem Sat.tail {θ:Th} {p:HP} {L:List HP} {w:World} (s:Sat θ (p::L) w):Sat θ L w :=
 let ⟨h0,ι,h,a,b,c,_,_,_,_,_,_,x,_,y⟩:=s;⟨h0,ι,h,a,b,c,y.mono (Hp.sub.refl _) x⟩
theorem Sat.keep {θ:Th} {L:List HP} {w w' : World} (s:Sat θ L w) (ok:θ.ok w') (hk:∀ (k:Nat) (o:Obj),w.heap[k]? = some o→w'.heap[k]? = some o):Sat θ L w' :=
 let ⟨_,ι,h,a,b,c,d⟩:=s;⟨ok,ι,h,a,fun k o x=>hk k o (b k o x),fun k o x=>hk k o (c k o x),d⟩
theorem Sat.drew {θ:Th} {L:List HP} {w:World} (s:Sat θ L w):Sat θ L { w with drawn:=w.drawn+1 } :=
 s.keep ⟨s.1.tape,s.1.os,s.1.output,Nat.le_succ_of_le s.1.drawn⟩ (fun _ _ h=>h)
def own (b:Nat) (o:Obj):HP:=fun _ h=>h b=some o
def imm (b:Nat) (o:Obj):HP:=fun ι _=>ι b=some o
def bK (φ:Prop):HP:=fun _ _=>φ
def hex {α:Type} (f:α→HP):HP:=fun ι h=>∃ x,f x ι h
def aX (L:List HP):HP:=fun ι h=>Stars L ι h
theorem Sat.own_heap {θ:Th} {b:Nat} {o:Obj} {L:List HP} {w:World} (s:Sat θ (own b o::L) w):w.heap[b]? = some o:=by
 obtain ⟨_,ι,h,a,b1,c,ι₀,h₁,h₂,d1,d2,d3,d4,d5,d6⟩:=s
 exact c b o (d3 b o d5)
theorem Sat.update {θ:Th} {b:Nat} {o o' : Obj} {L:List HP} {w w' : World} (s:Sat θ (own b o::L) w) (ok:θ.ok w')
  (hb:w'.heap[b]? = some o') (hk:∀ (k:Nat) (x:Obj),k≠b→w.heap[k]? = some x→w'.heap[k]? = some x):Sat θ (own b o'::L) w':=by
 obtain ⟨_,ι,h,a,b1,c,ι₀,h₁,h₂,d1,d2,d3,d4,d5,d6⟩:=s
 have hbh:h b=some o:=d3 b o d5
 have hbi:ι b=none:=a.symm b o hbh
 have hb2:h₂ b=none:=d2 b o d5
 refine ⟨ok,ι,fun k=>if k=b then some o' else h₂ k,?_,?_,?_,ι₀,fun k=>if k=b then some o' else none,h₂,d1,?_,?_,?_,by simp [own],d6⟩
 ·intro k x hx
  by_cases hkb:k=b
  ·subst hkb;rw [hbi] at hx;cases hx
  ·simp only [hkb,if_false]
   exact (a.mono (Hp.sub.refl _) d4) k x hx
 ·intro k x hx
  by_cases hkb:k=b
  ·subst hkb;rw [hbi] at hx;cases hx
  ·exact hk k x hkb (b1 k x hx)
 ·intro k x hx
  by_cases hkb:k=b
  ·subst hkb;simp at hx;subst hx;exact hb
  ·simp only [hkb,if_false] at hx;exact hk k x hkb (c k x (d4 k x hx))
 ·intro k x hx
  by_cases hkb:k=b
  ·subst hkb;exact hb2
  ·simp [hkb] at hx
 ·intro k x hx
  by_cases hkb:k=b
  ·simpa [hkb] using hx
  ·simp [hkb] at hx
 ·intro k x hx
  by_cases hkb:k=b
  ·subst hkb;rw [hb2] at hx;cases hx
  ·simpa [hkb] using hx
theorem Sat.fresh {θ:Th} {b:Nat} {o:Obj} {L:List HP} {w w' : World} (s:Sat θ L w) (ok:θ.ok w') (hn:w.heap.size≤b)
  (hb:w'.heap[b]? = some o) (hk:∀ (k:Nat) (x:Obj),w.heap[k]? = some x→w'.heap[k]? = some x):Sat θ (own b o::L) w':=by
 obtain ⟨_,ι,h,a,b1,c,d⟩:=s
 have none_of:∀ g:Hp,Hp.sub g (el w)→g b=none:=fun g hg=>by
  cases hx:g b with
  | none=>rfl
  | some x =>
   have h1:w.heap[b]? = some x:=hg b x hx
   rw [Array.getElem?_eq_none hn] at h1;cases h1
 have hi:=none_of ι b1
 have hh:=none_of h c
 refine ⟨ok,ι,fun k=>if k=b then some o else h k,?_,fun k x hx=>hk k x (b1 k x hx),?_,Hp.emp,fun k=>if k=b then some o else none,h,Hp.a6 _,?_,?_,?_,by simp [own],d⟩
 ·intro k x hx
  by_cases hkb:k=b
  ·subst hkb;rw [hi] at hx;cases hx
  ·simp only [hkb,if_false];exact a k x hx
 ·intro k x hx
  by_cases hkb:k=b
  ·subst hkb;simp at hx;subst hx;exact hb
  ·simp only [hkb,if_false] at hx;exact hk k x (c k x hx)
 ·intro k x hx
  by_cases hkb:k=b
  ·subst hkb;exact hh
  ·simp [hkb] at hx
 ·intro k x hx
  by_cases hkb:k=b
  ·simpa [hkb] using hx
  ·simp [hkb] at hx
 ·intro k x hx
  by_cases hkb:k=b
  ·subst hkb;rw [hh] at hx;cases hx
  ·simpa [hkb] using hx
theorem Sat.alloc {θ:Th} {o:Obj} {L:List HP} {w:World} (s:Sat θ L w):Sat θ (own w.heap.size o::L) (w.alloc o) :=
 s.fresh ⟨s.1.tape,s.1.os,s.1.output,s.1.drawn⟩ (Nat.le_refl _) (heap_alloc_new w o) (fun k x hx=>by
  rw [heap_alloc_old w o (Array.getElem?_eq_some_iff.1 hx).1];exact hx)
theorem Sat.freeze {θ:Th} {b:Nat} {o:Obj} {L:List HP} {w:World} (s:Sat θ (own b o::L) w):Sat θ (imm b o::L) w:=by
 obtain ⟨ok,ι,h,a,b1,c,ι₀,h₁,h₂,d1,d2,d3,d4,d5,d6⟩:=s
 have hb2:h₂ b=none:=d2 b o d5
 refine ⟨ok,fun k=>if k=b then some o else ι k,h₂,?_,?_,d4.trans c,fun k=>if k=b then some o else none,Hp.emp,h₂,?_,Hp.a7 _,Hp.a6 _,Hp.sub.refl _,by simp [imm],d6.mono ?_ (Hp.sub.refl _)⟩
 ·intro k x hx
  by_cases hkb:k=b
  ·subst hkb;exact hb2
  ·simp only [hkb,if_false] at hx;exact (a.mono (Hp.sub.refl _) d4) k x hx
 ·intro k x hx
  by_cases hkb:k=b
  ·subst hkb;simp at hx;subst hx;exact c k o (d3 k o d5)
  ·simp only [hkb,if_false] at hx;exact b1 k x hx
 ·intro k x hx
  by_cases hkb:k=b
  ·simpa [hkb] using hx
  ·simp [hkb] at hx
 ·intro k x hx
  by_cases hkb:k=b
  ·subst hkb
   have:=a k x hx
   rw [d3 k o d5] at this;cases this
  ·simpa [hkb] using hx
theorem Sat.ofPure {θ:Th} {φ:Prop} {L:List HP} {w:World} (s:Sat θ (bK φ::L) w):φ:=by
 obtain ⟨_,ι,h,a,b1,c,ι₀,h₁,h₂,d1,d2,d3,d4,d5,d6⟩:=s
 exact d5
theorem Sat.addPure {θ:Th} {φ:Prop} {L:List HP} {w:World} (s:Sat θ L w) (h:φ):Sat θ (bK φ::L) w:=by
 obtain ⟨ok,ι,h',a,b1,c,d⟩:=s
 exact ⟨ok,ι,h',a,b1,c,Hp.emp,Hp.emp,h',Hp.a6 _,Hp.a7 _,Hp.a6 _,Hp.sub.refl _,h,d⟩
theorem Sat.ofHex {θ:Th} {α:Type} {f:α→HP} {L:List HP} {w:World} (s:Sat θ (hex f::L) w):∃ x,Sat θ (f x::L) w:=by
 obtain ⟨ok,ι,h,a,b1,c,ι₀,h₁,h₂,d1,d2,d3,d4,⟨x,d5⟩,d6⟩:=s
 exact ⟨x,ok,ι,h,a,b1,c,ι₀,h₁,h₂,d1,d2,d3,d4,d5,d6⟩
theorem Sat.c7 {θ:Th} {α:Type} {f:α→HP} {L:List HP} {w:World} (x:α) (s:Sat θ (f x::L) w):Sat θ (hex f::L) w:=by
 obtain ⟨ok,ι,h,a,b1,c,ι₀,h₁,h₂,d1,d2,d3,d4,d5,d6⟩:=s
 exact ⟨ok,ι,h,a,b1,c,ι₀,h₁,h₂,d1,d2,d3,d4,⟨x,d5⟩,d6⟩
theorem Sat.ofStars {θ:Th} {A L:List HP} {w:World} (s:Sat θ (aX A::L) w):Sat θ (A++L) w:=by
 obtain ⟨ok,ι,h,a,b1,c,ι₀,h₁,h₂,d1,d2,d3,d4,d5,d6⟩:=s
 exact ⟨ok,ι,h,a,b1,c,Stars.a6 d2 d3 d4 (Stars.mono d1 (Hp.sub.refl _) d5) d6⟩
theorem Sat.a6 {θ:Th} {A L:List HP} {w:World} (s:Sat θ (A++L) w):Sat θ (aX A::L) w:=by
 obtain ⟨ok,ι,h,a,b1,c,d⟩:=s
 obtain ⟨h₁,h₂,g1,g2,g3,g4,g5⟩:=d.split
 exact ⟨ok,ι,h,a,b1,c,ι,h₁,h₂,Hp.sub.refl _,g1,g2,g3,g4,g5⟩
def Pers (A:HP):Prop:=∀ ι h,A ι h→A ι Hp.emp
theorem Sat.dup {θ:Th} {A:HP} (hA:Pers A) {L:List HP} {w:World} (s:Sat θ (A::L) w):Sat θ (A::A::L) w:=by
 obtain ⟨ok,ι,h,a,b1,c,ι₀,h₁,h₂,d1,d2,d3,d4,d5,d6⟩:=s
 exact ⟨ok,ι,h,a,b1,c,ι₀,Hp.emp,h,d1,Hp.a7 _,Hp.a6 _,Hp.sub.refl _,hA _ _ d5,ι₀,h₁,h₂,d1,d2,d3,d4,d5,d6⟩
def Ent (L L' : List HP):Prop:=∀ θ R w,Sat θ (L++R) w→Sat θ (L'++R) w
theorem Ent.refl (L:List HP):Ent L L:=fun _ _ _ h=>h
theorem Ent.trans {A B C:List HP} (h:Ent A B) (k:Ent B C):Ent A C:=fun θ R w s=>k θ R w (h θ R w s)
theorem Ent.perm {L L' : List HP} (h:L.Perm L'):Ent L L':=fun _ R _ s=>s.perm (h.append_right R)
theorem Ent.drop {p:HP} {L:List HP}:Ent (p::L) L:=fun _ _ _ s=>s.tail
theorem Ent.cons {p:HP} {L L' : List HP} (h:Ent L L'):Ent (p::L) (p::L'):=fun θ R w s =>
 ((h θ (p::R) w ((show Sat θ (p::(L++R)) w from s).perm List.perm_middle.symm)).perm List.perm_middle)
theorem Ent.append {A B C D:List HP} (h:Ent A B) (k:Ent C D):Ent (A++C) (B++D):=by
 intro θ R w s
 rw [List.append_assoc] at s ⊢
 have s1:=h θ _ w s
 have s2:Sat θ (C++(B++R)) w:=s1.perm (by rw [← List.append_assoc,← List.append_assoc];exact List.perm_append_comm.append_right R)
 have s3:=k θ _ w s2
 exact s3.perm (by rw [← List.append_assoc,← List.append_assoc];exact List.perm_append_comm.append_right R)
theorem Ent.nil (L:List HP):Ent L []:=by
 intro θ R w s
 induction L with
 | nil=>exact s
 | cons p L ih=>exact ih s.tail
abbrev Env:=List (Nat×Value)
structure EnvOk (N:Nat) (env:Env) (a:Act):Prop where
 size:a.tmps.size=N
 at_:∀ t v,env.lookup t=some v→a.tmps[t]? = some v
def evE (env:Env):Operand→Option Value
 | .tmp t=>env.lookup t
 | .const v=>some v
 | .global g=>some (.pointer (some ⟨g,0,none⟩))
 | .func f=>some (.func (.func f) #[] #[])
def Agr (env:Env) (ρ:Operand→Value):Prop:=∀ x v,evE env x=some v→ρ x=v
theorem ao {env:Env} {ρ:Operand→Value} (h:Agr env ρ) {x:Operand} {v:Value} (hx:evE env x=some v):ρ x=v:=h x v hx
theorem EnvOk.agr {N:Nat} {env:Env} {a:Act} (h:EnvOk N env a):Agr env a.eval:=by
 intro x v hx
 cases x with
 | tmp t=>have:=h.at_ t v hx;simp [Act.eval,this]
 | const c=>simpa [evE,Act.eval] using hx
 | global g=>simpa [evE,Act.eval] using hx
 | func f=>simpa [evE,Act.eval] using hx
def eJ (env:Env):List Operand→Option (List Value)
 | []=>some []
 | x::r=>match evE env x,eJ env r with
  | some v,some vs=>some (v::vs)
  | _,_=>none
def iK (env:Env):List (Nat×Operand)→Option (List (Nat×Value))
 | []=>some []
 | (i,x)::r=>match evE env x,iK env r with
  | some v,some vs=>some ((i,v)::vs)
  | _,_=>none
theorem Agr.list {env:Env} {ρ:Operand→Value} (h:Agr env ρ):∀ (l:List Operand) (vs:List Value),eJ env l=some vs→l.map ρ=vs:=by
 intro l
 induction l with
 | nil=>intro vs hv;simp [eJ] at hv;simp [hv]
 | cons x l ih =>
  intro vs hv
  simp only [eJ] at hv
  split at hv
  ·rename_i v us h1 h2
   simp at hv
   subst hv
   simp [h x v h1,ih us h2]
  ·cases hv
theorem Agr.pairs {env:Env} {ρ:Operand→Value} (h:Agr env ρ):∀ (l:List (Nat×Operand)) (vs:List (Nat×Value)),iK env l=some vs→l.map (fun p=>(p.1,ρ p.2))=vs:=by
 intro l
 induction l with
 | nil=>intro vs hv;simp [iK] at hv;simp [hv]
 | cons x l ih =>
  intro vs hv
  obtain ⟨i,x⟩:=x
  simp only [iK] at hv
  split at hv
  ·rename_i v us h1 h2
   simp at hv
   subst hv
   simp [h x v h1,ih us h2]
  ·cases hv
theorem EnvOk.put {N:Nat} {env:Env} {a:Act} (h:EnvOk N env a) {d:Nat} (hd:d<N) (v:Value):EnvOk N ((d,v)::env) (a.put (some d) v):=by
 refine ⟨by simp [Act.put,h.size],?_⟩
 intro t u ht
 simp only [List.lookup_cons] at ht
 by_cases htd:t=d
 ·subst htd
  simp at ht
  subst ht
  simp [Act.put,h.size,hd]
 ·have hb:(t == d)=false:=by simpa using htd
  simp only [hb] at ht
  simp only [Act.put]
  rw [Array.getElem?_setIfInBounds_ne (Ne.symm htd)]
  exact h.at_ t u ht
def EnvSub (env env' : Env):Prop:=∀ t v,env'.lookup t=some v→env.lookup t=some v
theorem EnvOk.less {N:Nat} {env env' : Env} {a:Act} (h:EnvOk N env a) (hs:EnvSub env env'):EnvOk N env' a:=⟨h.size,fun t v x=>h.at_ t v (hs t v x)⟩
theorem EnvSub.refl (env:Env):EnvSub env env:=fun _ _ h=>h
theorem EnvSub.nil (env:Env):EnvSub env []:=fun _ _ h=>by cases h
theorem EnvSub.cons {env env' : Env} {d:Nat} {v:Value} (h:env.lookup d=some v) (hs:EnvSub env env'):EnvSub env ((d,v)::env'):=by
 intro t u ht
 simp only [List.lookup_cons] at ht
 by_cases htd:t=d
 ·subst htd;simp at ht;subst ht;exact h
 ·have hb:(t == d)=false:=by simpa using htd
  simp only [hb] at ht
  exact hs t u ht
abbrev Post:=Exit→Env→List HP→Prop
def FW (r:Option Nat):Fence:={ Fence.wide with round:=r }
theorem ki {r:Option Nat} {n:Nat} {P:Program} {f:FuncId} {args:Array Value} {w:World} {R:Ending→World→Prop} (h:Calls P f args w R):CallsIn (FW r) n P f args w R :=
 (callsIn_wide (n:=n)).2 h
def mkD (M:List Nat):List Deferred:=M.map fun D=>{ target:=.collected D,args:=#[] }
def mkH (M:List Nat):List HP:=M.map fun D=>own D (.deferred (some []))
def ED (r:Option Nat) (Y:List HP):Prop:=∀ l,r=some l→∃ rec Y',Y.Perm (own l (.loop rec)::Y')
def At (N:Nat) (env:Env) (L:List HP) (θ:Th) (Y:List HP) (a:Act) (w:World):Prop:=∃ M,EnvOk N env a∧a.defers=mkD M∧Sat θ (L++(mkH M++Y)) w
def QK (θ:Th) (Y:List HP) (N:Nat) (K:Post):Exit→Act→World→Prop:=fun e a w=>∃ env L,At N env L θ Y a w∧K e env L
def G (P:Program) (N:Nat) (c:Code) (env:Env) (L:List HP) (K:Post):Prop :=
 ∀ r θ Y a w,ED r Y→At N env L θ Y a w→c.wpIn (FW r) 0 P (QK θ Y N K) a w
def GO (P:Program) (N:Nat) (ops:Array Oper) (l:List Oper) (env:Env) (L:List HP) (K:Post):Prop :=
 ∀ r θ Y a w,ED r Y→At N env L θ Y a w→wpListIn (FW r) 0 P ops (QK θ Y N K) l a w
def Post.seq (n:Env→List HP→Prop) (K:Post):Post:=fun e=>match e with
 | .normal=>n
 | e=>K e
def Post.inBlock (id:Nat) (K:Post):Post:=fun e=>match e with
 | .exit id'=>if id' = id then K .normal else K (.exit id')
 | e=>K e
section rules
variable {P:Program} {N:Nat} {env:Env} {L:List HP} {K:Post}
theorem At.less {θ:Th} {Y:List HP} {a:Act} {w:World} {env' : Env} {L' : List HP} (h:At N env L θ Y a w) (he:EnvSub env env') (hl:Ent L L'):At N env' L' θ Y a w :=
 let ⟨M,ea,hd,s⟩:=h;⟨M,ea.less he,hd,hl θ _ w s⟩
theorem At.eok {θ:Th} {Y:List HP} {a:Act} {w:World} (h:At N env L θ Y a w):EnvOk N env a:=let ⟨_,ea,_,_⟩:=h;ea
theorem At.agr {θ:Th} {Y:List HP} {a:Act} {w:World} (h:At N env L θ Y a w):Agr env a.eval:=h.eok.agr
theorem At.put {θ:Th} {Y:List HP} {a:Act} {w:World} (h:At N env L θ Y a w) {d:Nat} (hd:d<N) (v:Value):At N ((d,v)::env) L θ Y (a.put (some d) v) w :=
 let ⟨M,ea,hm,s⟩:=h;⟨M,ea.put hd v,hm,s⟩
theorem G.conseq {c:Code} {env' : Env} {L' : List HP} (h:G P N c env' L' K) (he:EnvSub env env') (hl:Ent L L'):G P N c env L K :=
 fun r θ Y a w hr i=>h r θ Y a w hr (i.less he hl)
theorem G.mono {c:Code} {K' : Post} (h:G P N c env L K) (hk:∀ e env L,K e env L→K' e env L):G P N c env L K' :=
 fun r θ Y a w hr i=>wpIn_mono (h r θ Y a w hr i) fun _ _ _ ⟨env',L',x,z⟩=>⟨env',L',x,hk _ _ _ z⟩
theorem At.open_ {α:Type} {φ:α→Prop} {L' : α→List HP} (h:∀ θ R w,Sat θ (L++R) w→∃ x,φ x∧Sat θ (L' x++R) w) {θ:Th} {Y:List HP} {a:Act} {w:World} (i:At N env L θ Y a w):∃ x,φ x∧At N env (L' x) θ Y a w :=
 let ⟨M,ea,hm,s⟩:=i;let ⟨x,hx,s'⟩:=h θ _ w s;⟨x,hx,M,ea,hm,s'⟩
theorem G.open_ {α:Type} {c:Code} {φ:α→Prop} {L' : α→List HP} (h:∀ θ R w,Sat θ (L++R) w→∃ x,φ x∧Sat θ (L' x++R) w)
  (k:∀ x,φ x→G P N c env (L' x) K):G P N c env L K:=fun r θ Y a w hr i =>
 let ⟨x,hx,i'⟩:=i.open_ h;k x hx r θ Y a w hr i'
theorem GO.conseq {ops:Array Oper} {l:List Oper} {env' : Env} {L' : List HP} (h:GO P N ops l env' L' K) (he:EnvSub env env') (hl:Ent L L'):GO P N ops l env L K :=
 fun r θ Y a w hr i=>h r θ Y a w hr (i.less he hl)
theorem GO.open_ {α:Type} {ops:Array Oper} {l:List Oper} {φ:α→Prop} {L' : α→List HP} (h:∀ θ R w,Sat θ (L++R) w→∃ x,φ x∧Sat θ (L' x++R) w)
  (k:∀ x,φ x→GO P N ops l env (L' x) K):GO P N ops l env L K:=fun r θ Y a w hr i =>
 let ⟨x,hx,i'⟩:=i.open_ h;k x hx r θ Y a w hr i'
theorem G.seq {x y:Code} (h:G P N x env L (K.seq fun env' L'=>G P N y env' L' K)):G P N (.seq x y) env L K:=by
 intro r θ Y a w hr i
 refine wpIn_seq (wpIn_mono (h r θ Y a w hr i) ?_)
 rintro e a' w' ⟨env',L',i',hk⟩
 cases e with
 | normal=>exact hk r θ Y a' w' hr i'
 | exit id=>exact ⟨env',L',i',hk⟩
 | goto l=>exact ⟨env',L',i',hk⟩
 | ret=>exact ⟨env',L',i',hk⟩
 | panic ch=>exact ⟨env',L',i',hk⟩
 | outgrown=>exact ⟨env',L',i',hk⟩
theorem G.mid {x y:Code} (M:Env→List HP→Prop) (h:G P N x env L (K.seq M)) (h' : ∀ env' L',M env' L'→G P N y env' L' K):G P N (.seq x y) env L K :=
 G.seq (h.mono fun e env L hk=>by cases e<;>first|exact h' _ _ hk|exact hk)
theorem G.block {id:Nat} {c:Code} (h:G P N c env L (K.inBlock id)):G P N (.block id c) env L K:=by
 intro r θ Y a w hr i
 refine wpIn_block (wpIn_mono (h r θ Y a w hr i) ?_)
 rintro e a' w' ⟨env',L',i',hk⟩
 cases e with
 | exit id' =>
  simp only [Post.inBlock] at hk
  simp only [Exit.inBlock]
  split
  ·rename_i he;rw [if_pos he] at hk;exact ⟨env',L',i',hk⟩
  ·rename_i he;rw [if_neg he] at hk;exact ⟨env',L',i',hk⟩
 | normal=>exact ⟨env',L',i',hk⟩
 | goto l=>exact ⟨env',L',i',hk⟩
 | ret=>exact ⟨env',L',i',hk⟩
 | panic ch=>exact ⟨env',L',i',hk⟩
 | outgrown=>exact ⟨env',L',i',hk⟩
theorem G.skip (h:K .normal env L):G P N .skip env L K:=fun _ _ _ _ _ _ i=>wpIn_skip ⟨env,L,i,h⟩
theorem G.ret (h:K .ret env L):G P N .ret env L K:=fun _ _ _ _ _ _ i=>wpIn_ret ⟨env,L,i,h⟩
theorem G.exit {id:Nat} (h:K (.exit id) env L):G P N (.exit id) env L K:=fun _ _ _ _ _ _ i=>wpIn_exit ⟨env,L,i,h⟩
theorem G.e9 {c:Operand} {x y:Code} (hc:evE env c=some (.bool true)) (h:G P N x env L K):G P N (.cond c x y) env L K :=
 fun r θ Y a w hr i=>wpIn_cond_true (ao i.agr hc) (h r θ Y a w hr i)
theorem G.e8 {c:Operand} {x y:Code} (hc:evE env c=some (.bool false)) (h:G P N y env L K):G P N (.cond c x y) env L K :=
 fun r θ Y a w hr i=>wpIn_cond_false (ao i.agr hc) (h r θ Y a w hr i)
theorem G.f8 {c:Operand} {x y:Code} {b:Bool} (hc:evE env c=some (.bool b)) (h:b=true→G P N x env L K) (h' : b=false→G P N y env L K):G P N (.cond c x y) env L K:=by
 cases b with
 | true=>exact G.e9 hc (h rfl)
 | false=>exact G.e8 hc (h' rfl)
theorem G.region {id:Nat} {l:List Oper} (h:GO P N l.toArray l env L K):G P N (.region id l.toArray false) env L K :=
 fun r θ Y a w hr i=>wpIn_region_lit (h r θ Y a w hr i)
theorem pP {F:Fence} {n:Nat} {Q:Exit→Act→World→Prop} {a:Act} {w:World} {c:Code} (I:Nat→Act→World→Prop) (n₀:Nat) (h₀:I n₀ a w)
  (round:∀ m a w,I m a w→c.wpIn F n P (Exit.then (fun a' w'=>∃ n',n' < m∧I n' a' w') Q) a w):(Code.loop c).wpIn F n P Q a w:=by
 refine wpIn_loop (fun a w=>∃ n,I n a w) (fun a w=>leastOf (fun n=>I n a w)) ⟨n₀,h₀⟩ ?_
 intro a w hI
 refine wpIn_mono (round _ a w (leastOf_spec hI).1) ?_
 intro e a' w' hq
 cases e with
 | normal =>
  obtain ⟨n',hlt,hI'⟩:=hq
  exact show (∃ n,I n a' w')∧leastOf (fun n=>I n a' w')<leastOf (fun n=>I n a w) from ⟨⟨n',hI'⟩,Nat.lt_of_le_of_lt ((leastOf_spec ⟨n',hI'⟩).2 n' hI') hlt⟩
 | exit id=>exact hq
 | goto l=>exact hq
 | ret=>exact hq
 | panic ch=>exact hq
 | outgrown=>exact hq
theorem G.loop {α:Type} {c:Code} (Inv:α→Prop) (e:α→Env) (l:α→List HP) (m:α→Nat) (x₀:α) (h₀:Inv x₀) (he:EnvSub env (e x₀)) (hl:Ent L (l x₀))
  (round:∀ x,Inv x→G P N c (e x) (l x) (K.seq fun env' L'=>∃ x',Inv x'∧m x' < m x∧EnvSub env' (e x')∧Ent L' (l x'))):G P N (.loop c) env L K:=by
 intro r θ Y a w hr i
 refine pP (fun n a w=>∃ x,m x=n∧Inv x∧At N (e x) (l x) θ Y a w) (m x₀) ⟨x₀,rfl,h₀,i.less he hl⟩ ?_
 rintro n a w ⟨x,rfl,hx,i⟩
 refine wpIn_mono (round x hx r θ Y a w hr i) ?_
 rintro ex a' w' ⟨env',L',i',hk⟩
 cases ex with
 | normal=>obtain ⟨x',i1,i2,i3,i4⟩:=hk;exact ⟨m x',i2,x',rfl,i1,i'.less i3 i4⟩
 | exit id=>exact ⟨env',L',i',hk⟩
 | goto l=>exact ⟨env',L',i',hk⟩
 | ret=>exact ⟨env',L',i',hk⟩
 | panic ch=>exact ⟨env',L',i',hk⟩
 | outgrown=>exact ⟨env',L',i',hk⟩
theorem GO.nil {ops:Array Oper} (h:K .normal env L):GO P N ops [] env L K:=fun _ _ _ _ _ _ i=>wpListIn_nil ⟨env,L,i,h⟩
def Ev (P:Program) (L:List HP) (env:Env) (op:Op) (ty:TypeId) (v:Value):Prop :=
 ∀ θ R ρ w o,Agr env ρ→Sat θ (L++R) w→o.op=op→o.type=ty→(execOp ρ o).run P w=.ok (.value v) w
theorem Ev.mk {op:Op} {ty:TypeId} {v:Value} (h:∀ θ R ρ w,Agr env ρ→Sat θ (L++R) w→∀ dst pos af g,(execOp ρ ⟨dst,op,ty,pos,af,g⟩).run P w=.ok (.value v) w):Ev P L env op ty v:=by
 rintro θ R ρ w ⟨dst,op',ty',pos,af,g⟩ ha s rfl rfl
 exact h θ R ρ w ha s dst pos af g
theorem Ev.any {op:Op} {ty:TypeId} {v:Value} (h:Ev P [] env op ty v):Ev P L env op ty v :=
 fun θ R ρ w o ha s h1 h2=>h θ (L++R) ρ w o ha s h1 h2
def Ef (P:Program) (L:List HP) (env:Env) (op:Op) (ty:TypeId) (post:Value→List HP→Prop):Prop :=
 ∀ θ R a w o next Q,Agr env a.eval→Sat θ (L++R) w→o.op=op→o.type=ty→(∀ v L' w',post v L'→Sat θ (L'++R) w'→next (a.put o.dst v) w')→Oper.wp P o a w next Q
theorem Ef.val {op:Op} {ty:TypeId} {post:Value→List HP→Prop} (h:∀ θ R ρ w,Agr env ρ→Sat θ (L++R) w→∀ dst pos af g,∃ v w' L',(execOp ρ ⟨dst,op,ty,pos,af,g⟩).run P w=.ok (.value v) w'∧post v L'∧Sat θ (L'++R) w'):Ef P L env op ty post:=by
 rintro θ R a w ⟨dst,op',ty',pos,af,g⟩ next Q ha s rfl rfl hn
 obtain ⟨v,w',L',h1,h2,h3⟩:=h θ R a.eval w ha s dst pos af g
 rw [Oper.wp,h1,Oper.upon_value]
 exact hn v L' w' h2 h3
theorem Ef.skip {op:Op} {ty:TypeId} {post:Value→List HP→Prop} (h:∀ θ R ρ w,Agr env ρ→Sat θ (L++R) w→∀ dst pos af g,∃ w' L',(execOp ρ ⟨dst,op,ty,pos,af,g⟩).run P w=.ok .skip w'∧post undef L'∧Sat θ (L'++R) w'):Ef P L env op ty post:=by
 rintro θ R a w ⟨dst,op',ty',pos,af,g⟩ next Q ha s rfl rfl hn
 obtain ⟨w',L',h1,h2,h3⟩:=h θ R a.eval w ha s dst pos af g
 rw [Oper.wp,h1,Oper.upon_skip]
 exact hn undef L' w' h2 h3
theorem Ev.ef {op:Op} {ty:TypeId} {v:Value} (h:Ev P L env op ty v):Ef P L env op ty (fun u L'=>u=v∧L' = L):=by
 intro θ R a w o next Q ha s h1 h2 hn
 rw [Oper.wp,h θ R a.eval w o ha s h1 h2,Oper.upon_value]
 exact hn v L w ⟨rfl,rfl⟩ s
theorem defers_put (a:Act) (d:Option Tmp) (v:Value):(a.put d v).defers=a.defers:=by cases d<;>rfl
theorem Ef.noDefer {op:Op} {ty:TypeId} {post:Value→List HP→Prop} (he:Ef P L env op ty post) {θ:Th} {R:List HP} {a:Act} {w:World} (ha:Agr env a.eval) (s:Sat θ (L++R) w):∀ c,op≠.defer c:=by
 rintro c rfl
 have h := he θ R a w ⟨none, .defer c, ty, "", #[], none⟩ (fun a' _ => a'.defers = a.defers) (fun _ _ _ => False) ha s rfl rfl (fun v L' w' _ _ => defers_put _ _ _)
 unfold Oper.wp at h
 simp only [execOp] at h
 rw [Sem.run_bind] at h
 cases hr:(resolve a.eval c ty).run P w with
 | ok d w' =>
  rw [hr] at h
  simp only [Result.andThen_ok,Sem.run_pure,Oper.upon,Act.put] at h
  exact absurd (congrArg List.length h) (by simp)
 | halt x w' =>
  rw [hr] at h
  cases x<;>simp [Result.andThen,Oper.upon] at h
theorem lP {r:Option Nat} {o:Oper} {a:Act} {w:World} {next:Act→World→Prop} {Q:Exit→Act→World→Prop} (hd:∀ c,o.op≠.defer c) (h:o.wp P a w next Q):o.wpIn (FW r) 0 P a w next Q:=by
 refine ⟨fun _ _=>trivial,?_⟩
 rw [Oper.semAt_eq _ _ _ hd]
 unfold Oper.wp at h
 generalize (execOp a.eval o).run P w=x at h
 cases x with
 | ok y w' =>
  cases y<;>simp only [Oper.upon] at h<;>simp only [Oper.uponIn]
  all_goals first
   | exact h
   | exact h.elim
   | exact ⟨(fun h=>by cases h),ki (by exact h)⟩
   | exact ⟨(fun h=>by cases h),fun c cs _=>(h c cs).imp fun v hv=>hv.imp fun w'' hw=>⟨hw.1,stepsIn_wide.2 hw.2⟩⟩
 | halt y w'=>cases y<;>simp only [Oper.upon] at h<;>simp only [Oper.uponIn]<;>first|exact h|exact h.elim
theorem GO.ef {ops:Array Oper} {rest:List Oper} {d:Nat} {op:Op} {ty:TypeId} {pos:String} {af:Array Edge} {post:Value→List HP→Prop} (he:Ef P L env op ty post) (hd:d<N)
  (h:∀ v L',post v L'→GO P N ops rest ((d,v)::env) L' K):GO P N ops (⟨some d,op,ty,pos,af,none⟩::rest) env L K:=by
 intro r θ Y a w hr i
 refine wpListIn_plain rfl fun K' hK=>?_
 obtain ⟨M,ea,hm,s⟩:=i
 exact lP (he.noDefer ea.agr s) (he θ _ a w _ K' _ ea.agr s rfl rfl fun v L' w' hp s'=>hK _ _ (h v L' hp r θ Y _ _ hr ⟨M,ea.put hd _,by rw [defers_put];exact hm,s'⟩))
theorem GO.efu {ops:Array Oper} {rest:List Oper} {op:Op} {ty:TypeId} {pos:String} {af:Array Edge} {post:Value→List HP→Prop} (he:Ef P L env op ty post)
  (h:∀ v L',post v L'→GO P N ops rest env L' K):GO P N ops (⟨none,op,ty,pos,af,none⟩::rest) env L K:=by
 intro r θ Y a w hr i
 refine wpListIn_plain rfl fun K' hK=>?_
 obtain ⟨M,ea,hm,s⟩:=i
 exact lP (he.noDefer ea.agr s) (he θ _ a w _ K' _ ea.agr s rfl rfl fun v L' w' hp s'=>hK _ _ (h v L' hp r θ Y _ _ hr ⟨M,ea,hm,s'⟩))
theorem GO.ev {ops:Array Oper} {rest:List Oper} {d:Nat} {op:Op} {ty:TypeId} {pos:String} {af:Array Edge} {v:Value} (he:Ev P L env op ty v) (hd:d<N)
  (h:GO P N ops rest ((d,v)::env) L K):GO P N ops (⟨some d,op,ty,pos,af,none⟩::rest) env L K :=
 GO.ef he.ef hd (by rintro _ _ ⟨rfl,rfl⟩;exact h)
theorem GO.e9 {ops:Array Oper} {rest:List Oper} {dst:Option Tmp} {op:Op} {ty:TypeId} {pos:String} {af:Array Edge} {j t:Nat} {b:Bool}
  (hj:(ops[j]?).bind (·.dst)=some t) (ht:env.lookup t=some (.bool b))
  (h:GO P N ops (⟨dst,op,ty,pos,af,none⟩::rest) env L K):GO P N ops (⟨dst,op,ty,pos,af,some (j,b)⟩::rest) env L K:=by
 intro r θ Y a w hr i
 have h1:=h r θ Y a w hr i
 have hy:yielded ops a.tmps j=some b:=by
  unfold yielded
  rw [hj]
  simp [i.eok.at_ t _ ht]
 simp only [wpListIn,Region.wanted,hy,beq_self_eq_true,if_true] at h1 ⊢
 exact h1
theorem GO.f8 {ops:Array Oper} {rest:List Oper} {d:Nat} {op:Op} {ty:TypeId} {pos:String} {af:Array Edge} {j t:Nat} {b c:Bool}
  (hj:(ops[j]?).bind (·.dst)=some t) (ht:env.lookup t=some (.bool c)) (hb:(c == b)=false) (hd:d<N)
  (h:GO P N ops rest ((d,undef)::env) L K):GO P N ops (⟨some d,op,ty,pos,af,some (j,b)⟩::rest) env L K:=by
 intro r θ Y a w hr i
 have h1:=h r θ Y (a.put (some d) undef) w hr (i.put hd _)
 have hy:yielded ops a.tmps j=some c:=by
  unfold yielded
  rw [hj]
  simp [i.eok.at_ t _ ht]
 have hne:(some c == some b)=false:=by cases c<;>cases b<;>simp_all
 simp only [wpListIn,Region.wanted,hy,hne] at h1 ⊢
 exact ⟨fun _ _=>trivial,h1⟩
theorem GO.c8 {ops:Array Oper} {rest:List Oper} {d:Nat} {op:Op} {ty:TypeId} {pos:String} {af:Array Edge} {j t:Nat} {b:Bool}
  (hj:(ops[j]?).bind (·.dst)=some t) (ht:env.lookup t=some undef) (hd:d<N)
  (h:GO P N ops rest ((d,undef)::env) L K):GO P N ops (⟨some d,op,ty,pos,af,some (j,b)⟩::rest) env L K:=by
 intro r θ Y a w hr i
 have h1:=h r θ Y (a.put (some d) undef) w hr (i.put hd _)
 have hy:yielded ops a.tmps j=none:=by
  unfold yielded
  rw [hj]
  simp [i.eok.at_ t _ ht,undef]
 simp only [wpListIn,Region.wanted,hy] at h1 ⊢
 exact ⟨fun _ _=>trivial,h1⟩
end rules
def Enters (P:Program) (f:FuncId):Prop:=∀ args w,(callFunc f args).run P w=.ok (.enter f args) w
structure Tri (P:Program) (f:FuncId) (args:Array Value) (L:List HP) (post:Value→List HP→Prop):Prop where
 enters:Enters P f
 calls:∀ θ R w,Sat θ (L++R) w→Calls P f args w fun e w'=>∃ v L',e=.returned v∧post v L'∧Sat θ (L'++R) w'
theorem Tri.mono {P:Program} {f:FuncId} {args:Array Value} {L:List HP} {post post' : Value→List HP→Prop} (h:Tri P f args L post) (hp:∀ v L,post v L→post' v L):Tri P f args L post' :=
 ⟨h.enters,fun θ R w s=>(h.calls θ R w s).mono fun _ _ ⟨v,L',a,b,c⟩=>⟨v,L',a,hp _ _ b,c⟩⟩
theorem Tri.pre {P:Program} {f:FuncId} {args:Array Value} {L L' : List HP} {post:Value→List HP→Prop} (h:Tri P f args L' post) (hl:Ent L L'):Tri P f args L post :=
 ⟨h.enters,fun θ R w s=>h.calls θ R w (hl θ R w s)⟩
def env0 (args:List Value) (k:Nat):Env:=match args with
 | []=>[]
 | v::r=>(k,v)::env0 r (k+1)
theorem yf (args:List Value) (k t:Nat):(env0 args k).lookup t=if k≤t then args[t - k]? else none:=by
 induction args generalizing k with
 | nil=>simp [env0]
 | cons v r ih =>
  simp only [env0,List.lookup_cons]
  by_cases h:t=k
  ·subst h;simp
  ·have hb:(t == k)=false:=by simpa using h
   simp only [hb,ih]
   by_cases hk:k+1≤t
   ·rw [if_pos hk,if_pos (by omega),show t - k=(t - (k+1))+1 by omega];simp
   ·rw [if_neg hk,if_neg (by omega)]
def resE (env:Env):List ResultVar→Option (List Value)
 | []=>some []
 | .tmp t::r=>match env.lookup t,resE env r with
  | some v,some vs=>some (v::vs)
  | _,_=>none
 | .cell _ _::_=>none
def resV:List Value→Value
 | [v]=>v
 | vs=>.tuple vs.toArray
theorem ES {P:Program} {N:Nat} {env:Env} {a:Act} (h:EnvOk N env a) (w:World) (g:ResultVar→Sem Value) (hg:∀ t,g (ResultVar.tmp t)=Sem.pure (a.tmps.getD t undef)) :
  ∀ (rs:List ResultVar) (vs:List Value),resE env rs=some vs→(rs.mapM g).run P w=Result.ok vs w:=by
 intro rs
 induction rs with
 | nil=>intro vs hv;simp [resE] at hv;subst hv;simp
 | cons r rs ih =>
  intro vs hv
  cases r with
  | cell x t=>simp [resE] at hv
  | tmp t =>
   simp only [resE] at hv
   split at hv
   ·rename_i v ws h1 h2
    simp at hv
    subst hv
    have h3:=h.at_ t v h1
    simp [List.mapM_cons,ih ws h2,hg,h3]
   ·cases hv
def ResOk (P:Program) (N:Nat) (env:Env) (L:List HP) (rs:List ResultVar) (vs:List Value):Prop :=
 ∀ θ R a w,EnvOk N env a→Sat θ (L++R) w→∀ g:ResultVar→Sem Value,(∀ t,g (ResultVar.tmp t)=Sem.pure (a.tmps.getD t undef))→(∀ x t,g (ResultVar.cell x t)=(do loadVar t (← asAddr (a.tmps.getD x undef))))→(rs.mapM g).run P w=Result.ok vs w
theorem ResOk.tmps {P:Program} {N:Nat} {env:Env} {L:List HP} {rs:List ResultVar} {vs:List Value} (h:resE env rs=some vs):ResOk P N env L rs vs:=fun _ _ _ w ea _ g hg _=>ES ea w g hg rs vs h
theorem ResOk.nil {P:Program} {N:Nat} {env:Env} {L:List HP}:ResOk P N env L [] []:=ResOk.tmps rfl
theorem ResOk.tmp {P:Program} {N:Nat} {env:Env} {L:List HP} {rs:List ResultVar} {vs:List Value} {t:Nat} {v:Value} (h:env.lookup t=some v) (hr:ResOk P N env L rs vs):ResOk P N env L (.tmp t::rs) (v::vs):=by
 intro θ R a w ea s g h1 h2
 have h3:=ea.at_ t v h
 simp [List.mapM_cons,hr θ R a w ea s g h1 h2,h1,h3]
theorem zA {P:Program} {N:Nat} {env:Env} {L R:List HP} {θ:Th} {a:Act} {fn:Func} (h:EnvOk N env a) {w:World} (s:Sat θ (L++R) w) {rs:List ResultVar} {vs:List Value} (hf:fn.results=rs.toArray) (hv:ResOk P N env L rs vs) :
  (results fn a.tmps).run P w=.ok (resV vs) w:=by
 unfold results
 rw [hf]
 simp only [List.mapM_toArray,Sem.run_bind,Sem.run_map]
 rw [hv θ R a w h s _ (fun t=>rfl) (fun x t=>rfl)]
 simp only [Result.andThen_ok,Sem.run_pure]
 congr 1
 match vs with
 | []=>rfl
 | [v]=>rfl
 | v::u::r=>simp [resV]
def Ends (P:Program) (N:Nat) (rs:List ResultVar) (post:Value→List HP→Prop):Post:=fun e env L=>(e=.ret∨e=.normal)∧∀ θ R w,Sat θ (L++R) w→∃ vs L',ResOk P N env L rs vs∧Sat θ (L'++R) w∧post (resV vs) L'
theorem nG {P:Program} {fn:Func} {tmps:Array Value} {R:Ending→World→Prop} {θ:Th} {Y:List HP}:∀ (M:List Nat) (w:World),Sat θ (mkH M++Y) w→(∀ w',Sat θ Y w'→LeavesIn Fence.wide 0 P fn tmps R [] .returning w')→LeavesInM Fence.wide 0 P fn tmps R (mkD M) .returning w
 | [],w,s,h=>h w s
 | D::M,w,s,h=>by
  have s0:Sat θ (own D (.deferred (some []))::(mkH M++Y)) w:=s
  have hb:=s0.own_heap
  refine ⟨by simp,.inl ⟨D,{ w with heap:=w.heap.setIfInBounds D (.deferred none) },rfl,?_,?_⟩⟩
  ·simp [Instr.takeDeferred,getObj,setObj,Sem.run,hb,bind,Sem.bind,pure]
  ·have hlt:D<w.heap.size:=(Array.getElem?_eq_some_iff.1 hb).1
   have s1:Sat θ (own D (.deferred none)::(mkH M++Y)) { w with heap:=w.heap.setIfInBounds D (.deferred none) }:=by
    refine s0.update ⟨s.1.tape,s.1.os,s.1.output,s.1.drawn⟩ (by simp [hlt]) ?_
    intro k x hk hx
    simp only [Array.getElem?_setIfInBounds]
    rw [if_neg (fun e=>hk e.symm)]
    exact hx
   exact nG M _ s1.tail h
theorem Tri.body {P:Program} {f:FuncId} {fn:Func} {c:Code} {args:List Value} {L:List HP} {post:Value→List HP→Prop} {rs:List ResultVar} (N:Nat)
  (he:Enters P f) (hf:P.funcs[f]? = some fn) (hb:fn.body=some c) (hr:fn.results=rs.toArray) (hN:fn.ntmps=N) (hN' : args.length≤N)
  (h:G P N c (env0 args 0) L (Ends P N rs post)):Tri P f args.toArray L post:=by
 refine ⟨he,fun θ R w s=>(callsIn_wide (n:=0)).1 (callsIn_of_wp_marks hf hb trivial ?_)⟩
 have ea:EnvOk N (env0 args 0) { tmps:=args.toArray++Array.replicate (fn.ntmps - args.toArray.size) undef,defers:=[] }:=by
  refine ⟨by simp [hN];omega,?_⟩
  intro t v ht
  rw [yf] at ht
  simp at ht
  have hlt:t<args.length:=(List.getElem?_eq_some_iff.1 ht).1
  rw [Array.getElem?_append_left (by simpa using hlt)]
  simpa using ht
 refine wpIn_mono (h none θ R _ w (fun l hl=>by cases hl) ⟨[],ea,rfl,s⟩) ?_
 rintro e a' w' ⟨env',L',⟨M,ea',hm,s'⟩,hex,hall⟩
 have hfin:LeavesInM Fence.wide 0 P fn a'.tmps (fun e w'=>∃ v L',e=.returned v∧post v L'∧Sat θ (L'++R) w') a'.defers .returning w':=by
  rw [hm]
  have s1:Sat θ (mkH M++(L'++R)) w':=s'.perm (by
   rw [← List.append_assoc,← List.append_assoc]
   exact List.perm_append_comm.append_right R)
  refine nG M w' s1 fun w₂ s₂=>?_
  obtain ⟨vs,L'',hvs,hent,hpost⟩:=hall θ R w₂ s₂
  exact ⟨_,zA (P:=P) ea' s₂ hr hvs,_,L'',rfl,hpost,hent⟩
 rcases hex with rfl|rfl
 ·exact hfin
 ·exact hfin
theorem Ef.call {P:Program} {env:Env} {L R' : List HP} {f:FuncId} {xs:Array Operand} {ats:Array TypeId} {ty:TypeId} {vs:List Value} {pre:List HP} {post:Value→List HP→Prop}
  (c:Tri P f vs.toArray pre post) (hv:eJ env xs.toList=some vs) (hL:Ent L (pre++R')) :
  Ef P L env (.call { callee:=.value (.func f),args:=xs,argTypes:=ats }) ty (fun v L'=>∃ L₁,post v L₁∧L' = L₁++R'):=by
 rintro θ R a w ⟨dst,op',ty',pos,af,g⟩ next Q ha s rfl rfl hn
 have hargs:xs.map a.eval=vs.toArray:=by
  apply Array.ext'
  simpa using ha.list xs.toList vs hv
 have hrun:(execOp a.eval ⟨dst,.call { callee:=.value (.func f),args:=xs,argTypes:=ats },ty',pos,af,g⟩).run P w=.ok (.enter f vs.toArray) w:=by
  simp [execOp,resolve,Deferred.ofValue,Act.eval,invoke,hargs]
  exact c.enters _ _
 rw [Oper.wp,hrun,Oper.upon_enter]
 refine (c.calls θ (R'++R) w (by rw [← List.append_assoc];exact hL θ R w s)).mono ?_
 rintro e w' ⟨v,L',rfl,hp,s'⟩
 exact hn v _ w' ⟨L',hp,rfl⟩ (by rw [List.append_assoc];exact s')
def dB (p:Prop) [Decidable p]:Bool:=decide p
theorem cu (p:Prop) [Decidable p]:dB p=decide p:=rfl
attribute [irreducible] dB
theorem aw {p:Prop} [Decidable p] (h:p):dB p=true:=by rw [cu];exact decide_eq_true h
theorem an {p:Prop} [Decidable p] (h:¬p):dB p=false:=by rw [cu];exact decide_eq_false h
def CB (b:Bool) (p q:Prop):Prop:=(b=true→p)∧(b=false→q)
theorem CB.tt {p q:Prop} (h:p):CB true p q:=⟨fun _=>h,fun h=>by cases h⟩
theorem CB.ff {p q:Prop} (h:q):CB false p q:=⟨fun h=>(by cases h),fun _=>h⟩
theorem CB.dec {φ:Prop} [Decidable φ] {p q:Prop} (h:φ→p) (h' : ¬φ→q):CB (dB φ) p q:=⟨fun e=>h (of_decide_eq_true (by rw [← cu];exact e)),fun e=>h' (of_decide_eq_false (by rw [← cu];exact e))⟩
theorem CB.pos {φ:Prop} [Decidable φ] {p q:Prop} (hφ:φ) (h:p):CB (dB φ) p q:=CB.dec (fun _=>h) (fun e=>absurd hφ e)
theorem CB.neg {φ:Prop} [Decidable φ] {p q:Prop} (hφ:¬φ) (h:q):CB (dB φ) p q:=CB.dec (fun e=>absurd e hφ) (fun _=>h)
theorem CB.bool {b:Bool} {p q:Prop} (h:b=true→p) (h' : b=false→q):CB b p q:=⟨h,h'⟩
def GB (b:Bool) (p p' q q' : Prop):Prop:=(b=true→p∨p')∧(b=false→q∨q')
theorem GB.tt {p p' q q' : Prop} (h:p):GB true p p' q q':=⟨fun _=>.inl h,fun h=>by cases h⟩
theorem GB.ff {p p' q q' : Prop} (h:q):GB false p p' q q':=⟨fun h=>(by cases h),fun _=>.inl h⟩
theorem GB.dec {φ:Prop} [Decidable φ] {p p' q q' : Prop} (h:φ→p') (h' : ¬φ→q'):GB (dB φ) p p' q q':=⟨fun e=>.inr (h (of_decide_eq_true (by rw [← cu];exact e))),fun e=>.inr (h' (of_decide_eq_false (by rw [← cu];exact e)))⟩
theorem GB.pos {φ:Prop} [Decidable φ] {p p' q q' : Prop} (hφ:φ) (h:p'):GB (dB φ) p p' q q':=GB.dec (fun _=>h) (fun e=>absurd hφ e)
theorem GB.neg {φ:Prop} [Decidable φ] {p p' q q' : Prop} (hφ:¬φ) (h:q'):GB (dB φ) p p' q q':=GB.dec (fun e=>absurd e hφ) (fun _=>h)
theorem GB.bool {b:Bool} {p p' q q' : Prop} (h:b=true→p') (h' : b=false→q'):GB b p p' q q':=⟨fun e=>.inr (h e),fun e=>.inr (h' e)⟩
theorem G.cond {P:Program} {N:Nat} {env:Env} {L:List HP} {K:Post} {c:Operand} {x y:Code} {b:Bool} (hc:evE env c=some (.bool b)) (h:CB b (G P N x env L K) (G P N y env L K)):G P N (.cond c x y) env L K :=
 G.f8 hc h.1 h.2
theorem GO.d9 {P:Program} {N:Nat} {env:Env} {L:List HP} {K:Post} {ops:Array Oper} {rest:List Oper} {d:Nat} {op:Op} {ty:TypeId} {pos:String} {af:Array Edge} {j t:Nat} {c:Bool}
  (hj:(ops[j]?).bind (·.dst)=some t) (ht:env.lookup t=some (.bool c)) (hd:d<N)
  (h:GB c (GO P N ops (⟨some d,op,ty,pos,af,none⟩::rest) env L K) (GO P N ops (⟨some d,op,ty,pos,af,none⟩::rest) ((t,.bool true)::env) L K) (GO P N ops rest ((d,undef)::env) L K) (GO P N ops rest ((d,undef)::(t,.bool false)::env) L K)) :
  GO P N ops (⟨some d,op,ty,pos,af,some (j,true)⟩::rest) env L K:=by
 cases c with
 | true=>exact GO.e9 hj ht ((h.1 rfl).elim id fun h=>h.conseq (EnvSub.cons ht (EnvSub.refl _)) (Ent.refl _))
 | false=>exact GO.f8 hj ht rfl hd ((h.2 rfl).elim id fun h=>h.conseq (by
   intro u v hu
   simp only [List.lookup_cons] at hu ⊢
   split
   ·rename_i e;simp only [e] at hu;exact hu
   ·rename_i e
    simp only [e] at hu
    split at hu
    ·rename_i e2;rw [beq_iff_eq] at e2;subst e2;rw [ht];exact hu
    ·exact hu) (Ent.refl _))
theorem GO.e7 {P:Program} {N:Nat} {env:Env} {L:List HP} {K:Post} {ops:Array Oper} {rest:List Oper} {d:Nat} {op:Op} {ty:TypeId} {pos:String} {af:Array Edge} {j t:Nat} {c:Bool}
  (hj:(ops[j]?).bind (·.dst)=some t) (ht:env.lookup t=some (.bool c)) (hd:d<N)
  (h:GB c (GO P N ops rest ((d,undef)::env) L K) (GO P N ops rest ((d,undef)::(t,.bool true)::env) L K) (GO P N ops (⟨some d,op,ty,pos,af,none⟩::rest) env L K) (GO P N ops (⟨some d,op,ty,pos,af,none⟩::rest) ((t,.bool false)::env) L K)) :
  GO P N ops (⟨some d,op,ty,pos,af,some (j,false)⟩::rest) env L K:=by
 cases c with
 | false=>exact GO.e9 hj ht ((h.2 rfl).elim id fun h=>h.conseq (EnvSub.cons ht (EnvSub.refl _)) (Ent.refl _))
 | true=>exact GO.f8 hj ht rfl hd ((h.1 rfl).elim id fun h=>h.conseq (by
   intro u v hu
   simp only [List.lookup_cons] at hu ⊢
   split
   ·rename_i e;simp only [e] at hu;exact hu
   ·rename_i e
    simp only [e] at hu
    split at hu
    ·rename_i e2;rw [beq_iff_eq] at e2;subst e2;rw [ht];exact hu
    ·exact hu) (Ent.refl _))
section kx
variable {P:Program} {N:Nat} {env:Env} {L:List HP} {K:Post} {n:Env→List HP→Prop}
theorem KX.e7 {id:Nat} (h:K (.exit id) env L):Post.seq n K (.exit id) env L:=h
theorem KX.e8 (h:K .ret env L):Post.seq n K .ret env L:=h
theorem KX.c9 (h:n env L):Post.seq n K .normal env L:=h
theorem KX.e9 {y:Code} (h:G P N y env L K):Post.seq (fun env' L'=>G P N y env' L' K) K .normal env L:=h
theorem KX.d7 {id:Nat} (h:K .normal env L):Post.inBlock id K (.exit id) env L:=by simpa [Post.inBlock] using h
theorem KX.c8 {id id' : Nat} (hne:id'≠id) (h:K (.exit id') env L):Post.inBlock id K (.exit id') env L:=by simpa [Post.inBlock,hne] using h
theorem KX.d8 {id:Nat} (h:K .ret env L):Post.inBlock id K .ret env L:=h
theorem KX.a7 {id:Nat} (h:K .normal env L):Post.inBlock id K .normal env L:=h
theorem KX.a6 {rs:List ResultVar} {post:Value→List HP→Prop} {vs:List Value} {L' : List HP} (h1:ResOk P N env L rs vs) (h2:Ent L L') (h3:post (resV vs) L'):Ends P N rs post .ret env L:=⟨.inl rfl,fun θ R w s=>⟨vs,L',h1,h2 θ R w s,h3⟩⟩
theorem KX.a8 {rs:List ResultVar} {post:Value→List HP→Prop} {vs:List Value} {L' : List HP} (h1:ResOk P N env L rs vs) (h2:Ent L L') (h3:post (resV vs) L'):Ends P N rs post .normal env L:=⟨.inr rfl,fun θ R w s=>⟨vs,L',h1,h2 θ R w s,h3⟩⟩
theorem KX.d9 {rs:List ResultVar} {post:Value→List HP→Prop} {e:Exit} {φ:Prop} (he:e=.ret∨e=.normal) (h:∀ θ R w,Sat θ (L++R) w→φ) (k:φ→Ends P N rs post e env L):Ends P N rs post e env L:=⟨he,fun θ R w s=>(k (h θ R w s)).2 θ R w s⟩
theorem KX.ent {rs:List ResultVar} {post:Value→List HP→Prop} {vs:List Value} {L' : List HP} (_h1:ResOk P N env L rs vs) (_h2:Ent L L') (h3:Ends P N rs post .ret env L):Ends P N rs post .ret env L:=h3
end kx
end Go.V
namespace Go.V
class TyOne (P:Program) (T:Nat):Prop where
 run:∀ w,(isAgg T).run P w=.ok false w
 size:(P.info? T).map (·.size)=some 1
class TyAgg (P:Program) (T:Nat) (n:outParam Nat):Prop where
 run:∀ w,(isAgg T).run P w=.ok true w
 size:(P.info? T).map (·.size)=some n
class TySl (P:Program) (T:Nat) (E sz by_:outParam Nat) (z:outParam (List Value)):Prop where
 under:P.underlying T=some (.slice E)
 info:(P.info? E).map (fun i=>(i.zero.map (·.cells.toList),i.size,i.bytes))=some (some z,sz,by_)
 zlen:z.length=sz
 pos:0<sz
class TyInt (P:Program) (T:Nat) (k:outParam IntKind):Prop where
 under:P.underlying T=some (.int k)
class TyPtr (P:Program) (T:Nat):Prop where
 under:∃ e,P.underlying T=some (.pointer e)
class TyStr (P:Program) (T:Nat):Prop where
 under:P.underlying T=some .string
class Fld (P:Program) (T f:Nat) (off:outParam Nat):Prop where
 run:∃ fs fd i,P.underlying T=some (.struct fs)∧fs[f]? = some fd∧fd.offset=off∧P.info? fd.type=some i∧i.size≠0
def yL (P:Program) (f:Nat):TypeDesc→Option (Nat×Option Nat)
 | .struct fs=>(fs[f]?).map fun fd=>(fd.offset,(P.info? fd.type).map (·.size))
 | _=>none
theorem Fld.of {P:Program} {T f off:Nat} (sz:Nat) (h:(P.underlying T).map (yL P f)=some (some (off,some (sz+1)))):Fld P T f off:=by
 cases hu:P.underlying T with
 | none=>rw [hu] at h;cases h
 | some d =>
  rw [hu] at h
  cases d<;>simp [yL] at h
  rename_i fs
  obtain ⟨fd,h1,h2,i,h3,h4⟩:=h
  exact ⟨fs,fd,i,hu,h1,h2,h3,by omega⟩
class TyMap (P:Program) (T:Nat) (K E:outParam Nat):Prop where
 under:P.underlying T=some (.map K E)
def pw (P:Program):TypeDesc→Option (List (Nat×Option Nat))
 | .struct fs=>some (fs.toList.map fun fd=>(fd.offset,(P.info? fd.type).map (·.size)))
 | _=>none
class TyStruct (P:Program) (T:Nat) (pl:outParam (List (Nat×Nat))):Prop where
 eq:(P.underlying T).map (pw P)=some (some (pl.map fun p=>(p.1,some p.2)))
theorem TyOne.sizeOf_run {P:Program} {T:Nat} [h:TyOne P T] (w:World):(sizeOf T).run P w=.ok 1 w:=by
 have h1:=h.size
 cases hi:P.info? T with
 | none=>rw [hi] at h1;cases h1
 | some i=>rw [hi] at h1;simp at h1;simp [sizeOf,typeInfo,hi,h1]
theorem TyAgg.sizeOf_run {P:Program} {T n:Nat} [h:TyAgg P T n] (w:World):(sizeOf T).run P w=.ok n w:=by
 have h1:=h.size
 cases hi:P.info? T with
 | none=>rw [hi] at h1;cases h1
 | some i=>rw [hi] at h1;simp at h1;simp [sizeOf,typeInfo,hi,h1]
theorem TySl.parts {P:Program} {T E sz by_:Nat} {z:List Value} (h:TySl P T E sz by_ z):∃ i z0,P.info? E=some i∧i.zero=some z0∧z0.cells.toList=z∧i.size=sz∧i.bytes=by_:=by
 have h1:=h.info
 cases hi:P.info? E with
 | none=>rw [hi] at h1;cases h1
 | some i =>
  rw [hi] at h1
  simp at h1
  obtain ⟨⟨z0,hz,hz'⟩,h2,h3⟩:=h1
  exact ⟨i,z0,rfl,hz,hz',h2,h3⟩
class EncC {α:Type} (enc:α→List Value):Prop where
 one:∀ x,∀ u∈enc x,u.oneCell' = true
def obj (b T:Nat) (cs:List Value):HP:=own b (.cells cs.toArray T (0,0))
def osl {α:Type} (enc:α→List Value) (sz E:Nat) (ad:Option Addr) (cap:Nat) (xs:List α):HP:=fun _ h =>
 (∀ x∈xs,(enc x).length=sz)∧xs.length≤cap∧cap≤maxLen ∧
 ((ad=none∧cap=0)∨∃ g cur,ad=some ⟨g,0,none⟩∧h g=some (.cells cur E (0,0))∧cur.size=cap*sz∧cur.toList.take (xs.length*sz)=xs.flatMap enc)
def isl {α:Type} (enc:α→List Value) (sz:Nat) (ad:Option Addr) (xs:List α):HP:=fun ι _ =>
 (∀ x∈xs,(enc x).length=sz) ∧
 (xs=[]∨∃ g off cur E fz,ad=some ⟨g,off,none⟩∧ι g=some (.cells cur E fz)∧∀ i v,(xs.flatMap enc)[i]? = some v→cur[off+i]? = some v)
def RdSl {α:Type} (w:World) (enc:α→List Value) (sz:Nat) (ad:Option Addr) (xs:List α):Prop :=
 (∀ x∈xs,(enc x).length=sz) ∧
 (xs=[]∨∃ a,ad=some a∧∀ i v,(xs.flatMap enc)[i]? = some v→w.cell? (a.add i)=some v)
class PickObj (L:List HP) (b:Nat) (T:outParam Nat) (cs:outParam (List Value)) (R:outParam (List HP)):Prop where
 perm:L.Perm (obj b T cs::R)
instance (L:List HP) (b T:Nat) (cs:List Value):PickObj (obj b T cs::L) b T cs L:=⟨List.Perm.refl _⟩
instance (A:HP) (L:List HP) (b T:Nat) (cs:List Value) (R:List HP) [h:PickObj L b T cs R]:PickObj (A::L) b T cs (A::R):=⟨(h.perm.cons A).trans (List.Perm.swap _ _ _)⟩
class PickOsl (L:List HP) (ad:Option Addr) (α:outParam Type) (enc:outParam (α→List Value)) (sz E:outParam Nat) (cap:outParam Nat) (xs:outParam (List α)) (R:outParam (List HP)):Prop where
 perm:L.Perm (osl enc sz E ad cap xs::R)
instance {α:Type} (L:List HP) (enc:α→List Value) (sz E:Nat) (ad:Option Addr) (cap:Nat) (xs:List α):PickOsl (osl enc sz E ad cap xs::L) ad α enc sz E cap xs L:=⟨List.Perm.refl _⟩
instance {α:Type} (A:HP) (L:List HP) (enc:α→List Value) (sz E:Nat) (ad:Option Addr) (cap:Nat) (xs:List α) (R:List HP) [h:PickOsl L ad α enc sz E cap xs R]:PickOsl (A::L) ad α enc sz E cap xs (A::R):=⟨(h.perm.cons A).trans (List.Perm.swap _ _ _)⟩
class Rds (L:List HP) (ad:Option Addr) (α:outParam Type) (enc:outParam (α→List Value)) (sz:outParam Nat) (xs:outParam (List α)):Prop where
 rd:∀ θ R w,Sat θ (L++R) w→RdSl w enc sz ad xs
theorem tI (a:Addr):a.add 0=a:=by simp [Addr.add]
theorem dY (g i:Nat):(⟨g,0,none⟩:Addr).add i=⟨g,i,none⟩:=by unfold Addr.add;split<;>simp_all
theorem gr (g o i:Nat):(⟨g,o,none⟩:Addr).add i=⟨g,o+i,none⟩:=by unfold Addr.add;split<;>simp_all
theorem cS {w:World} {g:Nat} {cur:Array Value} {E:TypeId} {fz:Nat×Nat} (h:w.heap[g]? = some (.cells cur E fz)) (i:Nat):w.cell? ⟨g,i,none⟩=cur[i]?:=by simp [World.cell?,h]
theorem Sat.osl_parts {α:Type} {θ:Th} {enc:α→List Value} {sz E:Nat} {ad:Option Addr} {cap:Nat} {xs:List α} {L:List HP} {w:World} (s:Sat θ (osl enc sz E ad cap xs::L) w) :
  (∀ x∈xs,(enc x).length=sz)∧xs.length≤cap∧cap≤maxLen ∧
  ((ad=none∧cap=0)∨∃ g cur,ad=some ⟨g,0,none⟩∧cur.size=cap*sz∧cur.toList.take (xs.length*sz)=xs.flatMap enc∧Sat θ (own g (.cells cur E (0,0))::L) w):=by
 obtain ⟨ok,ι,h,a,b1,c,ι₀,h₁,h₂,d1,d2,d3,d4,⟨e1,e2,e3,e4⟩,d6⟩:=s
 refine ⟨e1,e2,e3,?_⟩
 rcases e4 with e4|⟨g,cur,f1,f2,f3,f4⟩
 ·exact .inl e4
 ·exact .inr ⟨g,cur,f1,f3,f4,ok,ι,h,a,b1,c,ι₀,h₁,h₂,d1,d2,d3,d4,f2,d6⟩
theorem Sat.osl_mk {α:Type} {θ:Th} {enc:α→List Value} {sz E:Nat} {g cap:Nat} {cur:Array Value} {xs:List α} {L:List HP} {w:World} (s:Sat θ (own g (.cells cur E (0,0))::L) w)
  (h1:∀ x∈xs,(enc x).length=sz) (h2:xs.length≤cap) (h3:cap≤maxLen) (h4:cur.size=cap*sz) (h5:cur.toList.take (xs.length*sz)=xs.flatMap enc):Sat θ (osl enc sz E (some ⟨g,0,none⟩) cap xs::L) w:=by
 obtain ⟨ok,ι,h,a,b1,c,ι₀,h₁,h₂,d1,d2,d3,d4,d5,d6⟩:=s
 exact ⟨ok,ι,h,a,b1,c,ι₀,h₁,h₂,d1,d2,d3,d4,⟨h1,h2,h3,.inr ⟨g,cur,rfl,d5,h4,h5⟩⟩,d6⟩
theorem Sat.d7 {α:Type} {θ:Th} (enc:α→List Value) (sz E:Nat) {L:List HP} {w:World} (s:Sat θ L w):Sat θ (osl enc sz E none 0 []::L) w:=by
 obtain ⟨ok,ι,h',a,b1,c,d⟩:=s
 exact ⟨ok,ι,h',a,b1,c,Hp.emp,Hp.emp,h',Hp.a6 _,Hp.a7 _,Hp.a6 _,Hp.sub.refl _,⟨by simp,by simp,by simp,.inl ⟨rfl,rfl⟩⟩,d⟩
theorem cA {α:Type} {enc:α→List Value} {sz:Nat} {xs:List α} (h:∀ x∈xs,(enc x).length=sz):(xs.flatMap enc).length=xs.length*sz:=by
 induction xs with
 | nil=>simp
 | cons x xs ih =>
  simp only [List.flatMap_cons,List.length_append,List.length_cons,ih (fun y hy=>h y (List.mem_cons_of_mem _ hy)),h x List.mem_cons_self,Nat.add_mul]
  omega
theorem mI {α:Type} [Inhabited α] {enc:α→List Value} {sz:Nat} {xs:List α} (h:∀ x∈xs,(enc x).length=sz) {j o:Nat} (hj:j<xs.length) (ho:o<sz):(xs.flatMap enc)[j*sz+o]? = (enc xs[j]!)[o]?:=by
 induction xs generalizing j with
 | nil=>simp at hj
 | cons x xs ih =>
  have hx:=h x List.mem_cons_self
  have hr:=fun y hy=>h y (List.mem_cons_of_mem x hy)
  cases j with
  | zero =>
   simp only [List.flatMap_cons,Nat.zero_mul,Nat.zero_add]
   rw [List.getElem?_append_left (by omega)]
   simp
  | succ j =>
   simp only [List.flatMap_cons]
   rw [List.getElem?_append_right (by rw [hx,Nat.add_mul];omega),hx,show (j+1)*sz+o - sz=j*sz+o by rw [Nat.add_mul];omega,ih hr (by simpa using hj)]
   simp
theorem Sat.d8 {α:Type} {θ:Th} {enc:α→List Value} {sz E:Nat} {ad:Option Addr} {cap:Nat} {xs:List α} {L:List HP} {w:World} (s:Sat θ (osl enc sz E ad cap xs::L) w):RdSl w enc sz ad xs:=by
 obtain ⟨h1,h2,h3,h4⟩:=s.osl_parts
 refine ⟨h1,?_⟩
 rcases h4 with ⟨rfl,rfl⟩|⟨g,cur,rfl,f1,f2,f3⟩
 ·exact .inl (List.eq_nil_of_length_eq_zero (by omega))
 ·refine .inr ⟨_,rfl,fun i v hv=>?_⟩
  rw [dY,cS f3.own_heap]
  rw [← f2,List.getElem?_take] at hv
  split at hv
  ·simpa using hv
  ·cases hv
theorem Sat.d9 {α:Type} {θ:Th} {enc:α→List Value} {sz:Nat} {ad:Option Addr} {xs:List α} {L:List HP} {w:World} (s:Sat θ (isl enc sz ad xs::L) w):RdSl w enc sz ad xs:=by
 obtain ⟨ok,ι,h,a,b1,c,ι₀,h₁,h₂,d1,d2,d3,d4,⟨e1,e2⟩,d6⟩:=s
 refine ⟨e1,?_⟩
 rcases e2 with e2|⟨g,off,cur,E,fz,rfl,f1,f2⟩
 ·exact .inl e2
 ·refine .inr ⟨_,rfl,fun i v hv=>?_⟩
  have hb:w.heap[g]? = some (.cells cur E fz):=b1 g _ (d1 g _ f1)
  rw [gr,cS hb]
  exact f2 i v hv
instance {α:Type} (L:List HP) (enc:α→List Value) (sz E:Nat) (ad:Option Addr) (cap:Nat) (xs:List α):Rds (osl enc sz E ad cap xs::L) ad α enc sz xs:=⟨fun _ _ _ s=>Sat.d8 s⟩
instance {α:Type} (L:List HP) (enc:α→List Value) (sz:Nat) (ad:Option Addr) (xs:List α):Rds (isl enc sz ad xs::L) ad α enc sz xs:=⟨fun _ _ _ s=>Sat.d9 s⟩
instance {α:Type} (A:HP) (L:List HP) (enc:α→List Value) (sz:Nat) (ad:Option Addr) (xs:List α) [h:Rds L ad α enc sz xs]:Rds (A::L) ad α enc sz xs:=⟨fun θ R w s=>h.rd θ R w s.tail⟩
theorem Sat.freezeSl {α:Type} {θ:Th} {enc:α→List Value} {sz E:Nat} {ad:Option Addr} {cap:Nat} {xs:List α} {L:List HP} {w:World} (s:Sat θ (osl enc sz E ad cap xs::L) w):Sat θ (isl enc sz ad xs::L) w:=by
 obtain ⟨h1,h2,h3,h4⟩:=s.osl_parts
 rcases h4 with ⟨rfl,rfl⟩|⟨g,cur,rfl,f1,f2,f3⟩
 ·have hx:xs=[]:=List.eq_nil_of_length_eq_zero (by omega)
  subst hx
  obtain ⟨ok,ι,h',a,b1,c,d⟩:=s.tail
  exact ⟨ok,ι,h',a,b1,c,Hp.emp,Hp.emp,h',Hp.a6 _,Hp.a7 _,Hp.a6 _,Hp.sub.refl _,⟨by simp,.inl rfl⟩,d⟩
 ·obtain ⟨ok,ι,h,a,b1,c,ι₀,h₁,h₂,d1,d2,d3,d4,d5,d6⟩:=f3.freeze
  refine ⟨ok,ι,h,a,b1,c,ι₀,h₁,h₂,d1,d2,d3,d4,⟨h1,.inr ⟨g,0,cur,E,(0,0),rfl,d5,?_⟩⟩,d6⟩
  intro i v hv
  rw [← f2,List.getElem?_take] at hv
  split at hv
  ·simpa using hv
  ·cases hv
theorem ix {α:Type} (enc:α→List Value) (sz:Nat) (ad:Option Addr) (xs:List α):Pers (isl enc sz ad xs):=fun _ _ h=>h
def elP (ad:Option Addr) (sz j off:Nat):Option Addr:=ad.map (·.add (j*sz+off))
section ops
variable {P:Program} {N:Nat} {env:Env} {L:List HP} {K:Post} {ty:TypeId} {pos:String} {af:Array Edge}
theorem Ev.move {x:Operand} {v:Value} (hx:evE env x=some v):Ev P L env (.move x) ty (v) :=
 Ev.mk (fun _ _ _ _ ea _ _ _ _ _=>by simp [execOp,ao ea hx])
theorem Ev.assign {x:Operand} {v:Value} (hx:evE env x=some v):Ev P L env (.assign x) ty (v) :=
 Ev.mk (fun _ _ _ _ ea _ _ _ _ _=>by simp [execOp,ao ea hx])
theorem Ev.m8 {c x y:Operand} {v:Value} (hc:evE env c=some (.bool true)) (hx:evE env x=some v):Ev P L env (.pick c x y) ty (v) :=
 Ev.mk (fun _ _ _ _ ea _ _ _ _ _=>by simp [execOp,ao ea hc,ao ea hx,asBool])
theorem Ev.m7 {c x y:Operand} {v:Value} (hc:evE env c=some (.bool false)) (hy:evE env y=some v):Ev P L env (.pick c x y) ty (v) :=
 Ev.mk (fun _ _ _ _ ea _ _ _ _ _=>by simp [execOp,ao ea hc,ao ea hy,asBool])
theorem Ev.extract {x:Operand} {l:List Value} {i:Nat} {v:Value} (hx:evE env x=some (.tuple l.toArray)) (hi:l[i]? = some v):Ev P L env (.extract x i) ty (v) :=
 Ev.mk (fun _ _ _ _ ea _ _ _ _ _=>by simp [execOp,ao ea hx,Instr.extract,hi])
theorem wrap_i64 {n:Int} (h0 : -9223372036854775808≤n) (h1:n≤9223372036854775807):IntKind.i64.wrap n=n:=by
 exact IntWalk.i64_in _ ⟨h0,h1⟩
theorem kj {dst:Option Tmp} {g:Option (Nat×Bool)} {op:BinOp} {k:IntKind} {t yt:TypeId} {x y:Operand} {a b:Int} {ρ:Operand→Value} {w:World} {b' : Bool} (hx:ρ x=.int k a) (hy:ρ y=.int k b)
  (hop:(binOp op t (.int k a) (.int k b)).run P w=.ok (.bool b') w):(execOp ρ ⟨dst,.binOp op t x y yt,ty,pos,af,g⟩).run P w=.ok (.value (.bool b')) w:=by
 simp [execOp,hx,hy,hop,eqGuard]
theorem eP {dst:Option Tmp} {g:Option (Nat×Bool)} {op:BinOp} {k k' : IntKind} {t yt:TypeId} {x y:Operand} {a b c:Int} {ρ:Operand→Value} {w:World} (hx:ρ x=.int k a) (hy:ρ y=.int k' b)
  (hop:(binOp op t (.int k a) (.int k' b)).run P w=.ok (.int k c) w):(execOp ρ ⟨dst,.binOp op t x y yt,ty,pos,af,g⟩).run P w=.ok (.value (.int k c)) w:=by
 simp [execOp,hx,hy,hop,eqGuard]
theorem Ev.eql {t yt:TypeId} {x y:Operand} {k:IntKind} {a b:Int} (hx:evE env x=some (.int k a)) (hy:evE env y=some (.int k b)):Ev P L env (.binOp .eql t x y yt) ty (.bool (dB (a=b))) :=
 Ev.mk (fun _ _ _ w ea _ _ _ _ _=>kj (ao ea hx) (ao ea hy) (by simp [binOp,Op.intCmp,BEq.beq,cu]))
theorem Ev.neq {t yt:TypeId} {x y:Operand} {k:IntKind} {a b:Int} (hx:evE env x=some (.int k a)) (hy:evE env y=some (.int k b)):Ev P L env (.binOp .neq t x y yt) ty (.bool (dB (¬a=b))) :=
 Ev.mk (fun _ _ _ w ea _ _ _ _ _=>kj (ao ea hx) (ao ea hy) (by simp [binOp,Op.intCmp,bne,BEq.beq,cu]))
theorem Ev.lss {t yt:TypeId} {x y:Operand} {k:IntKind} {a b:Int} (hx:evE env x=some (.int k a)) (hy:evE env y=some (.int k b)):Ev P L env (.binOp .lss t x y yt) ty (.bool (dB (a<b))) :=
 Ev.mk (fun _ _ _ w ea _ _ _ _ _=>kj (ao ea hx) (ao ea hy) (by simp [binOp,Op.intCmp,cu]))
theorem Ev.leq {t yt:TypeId} {x y:Operand} {k:IntKind} {a b:Int} (hx:evE env x=some (.int k a)) (hy:evE env y=some (.int k b)):Ev P L env (.binOp .leq t x y yt) ty (.bool (dB (a≤b))) :=
 Ev.mk (fun _ _ _ w ea _ _ _ _ _=>kj (ao ea hx) (ao ea hy) (by simp [binOp,Op.intCmp,cu]))
theorem Ev.gtr {t yt:TypeId} {x y:Operand} {k:IntKind} {a b:Int} (hx:evE env x=some (.int k a)) (hy:evE env y=some (.int k b)):Ev P L env (.binOp .gtr t x y yt) ty (.bool (dB (b<a))) :=
 Ev.mk (fun _ _ _ w ea _ _ _ _ _=>kj (ao ea hx) (ao ea hy) (by simp [binOp,Op.intCmp,cu]))
theorem Ev.geq {t yt:TypeId} {x y:Operand} {k:IntKind} {a b:Int} (hx:evE env x=some (.int k a)) (hy:evE env y=some (.int k b)):Ev P L env (.binOp .geq t x y yt) ty (.bool (dB (b≤a))) :=
 Ev.mk (fun _ _ _ w ea _ _ _ _ _=>kj (ao ea hx) (ao ea hy) (by simp [binOp,Op.intCmp,cu]))
theorem Ev.add {t yt:TypeId} {x y:Operand} {a b:Int} (hx:evE env x=some (.int .i64 a)) (hy:evE env y=some (.int .i64 b)) (h0 : -9223372036854775808≤a+b) (h1:a+b≤9223372036854775807):Ev P L env (.binOp .add t x y yt) ty (.int .i64 (a+b)) :=
 Ev.mk (fun _ _ _ w ea _ _ _ _ _=>eP (ao ea hx) (ao ea hy) (by simp [binOp,Op.intArith,wrap_i64 h0 h1]))
theorem Ev.sub {t yt:TypeId} {x y:Operand} {a b:Int} (hx:evE env x=some (.int .i64 a)) (hy:evE env y=some (.int .i64 b)) (h0 : -9223372036854775808≤a - b) (h1:a - b≤9223372036854775807):Ev P L env (.binOp .sub t x y yt) ty (.int .i64 (a - b)) :=
 Ev.mk (fun _ _ _ w ea _ _ _ _ _=>eP (ao ea hx) (ao ea hy) (by simp [binOp,Op.intArith,wrap_i64 h0 h1]))
theorem Ev.mul {t yt:TypeId} {x y:Operand} {a b:Int} (hx:evE env x=some (.int .i64 a)) (hy:evE env y=some (.int .i64 b)) (h0 : -9223372036854775808≤a*b) (h1:a*b≤9223372036854775807):Ev P L env (.binOp .mul t x y yt) ty (.int .i64 (a*b)) :=
 Ev.mk (fun _ _ _ w ea _ _ _ _ _=>eP (ao ea hx) (ao ea hy) (by simp [binOp,Op.intArith,wrap_i64 h0 h1]))
theorem Ev.o7 {t yt:TypeId} {x y:Operand} {k:IntKind} {a b:Int} (hx:evE env x=some (.int k a)) (hy:evE env y=some (.int k b)):Ev P L env (.binOp .add t x y yt) ty (.int k (k.wrap (a+b))) :=
 Ev.mk (fun _ _ _ w ea _ _ _ _ _=>eP (ao ea hx) (ao ea hy) (by simp [binOp,Op.intArith]))
theorem Ev.z7 {t yt:TypeId} {x y:Operand} {k:IntKind} {a b:Int} (hx:evE env x=some (.int k a)) (hy:evE env y=some (.int k b)):Ev P L env (.binOp .sub t x y yt) ty (.int k (k.wrap (a - b))) :=
 Ev.mk (fun _ _ _ w ea _ _ _ _ _=>eP (ao ea hx) (ao ea hy) (by simp [binOp,Op.intArith]))
theorem Ev.o6 {t yt:TypeId} {x y:Operand} {k:IntKind} {a b:Int} (hx:evE env x=some (.int k a)) (hy:evE env y=some (.int k b)):Ev P L env (.binOp .mul t x y yt) ty (.int k (k.wrap (a*b))) :=
 Ev.mk (fun _ _ _ w ea _ _ _ _ _=>eP (ao ea hx) (ao ea hy) (by simp [binOp,Op.intArith]))
theorem oO {a b:Int} (h0 : -9223372036854775808≤a) (h1:a≤9223372036854775807) (hb:0<b) : -9223372036854775808≤a.tdiv b∧a.tdiv b≤9223372036854775807:=by
 by_cases ha:0≤a
 ·rw [Int.tdiv_eq_ediv_of_nonneg ha]
  have h2:=Int.ediv_nonneg ha (Int.le_of_lt hb)
  have h3:=Int.ediv_le_self b ha
  omega
 ·have h4:a.tdiv b = -((-a).tdiv b):=by rw [Int.neg_tdiv,Int.neg_neg]
  rw [h4,Int.tdiv_eq_ediv_of_nonneg (by omega)]
  have h2:=Int.ediv_nonneg (show 0≤-a by omega) (Int.le_of_lt hb)
  have h3:=Int.ediv_le_self b (show 0≤-a by omega)
  omega
theorem Ev.quo {t yt:TypeId} {x y:Operand} {a b:Int} (hx:evE env x=some (.int .i64 a)) (hy:evE env y=some (.int .i64 b)) (h0:0≤a) (h1:a≤9223372036854775807) (hb:0<b):Ev P L env (.binOp .quo t x y yt) ty (.int .i64 (a / b)) :=
 Ev.mk (fun _ _ _ w ea _ _ _ _ _=>eP (ao ea hx) (ao ea hy) (by
  have hb' : b≠0:=by omega
  have h2:=Int.ediv_nonneg h0 (Int.le_of_lt hb)
  have h3:=Int.ediv_le_self b h0
  simp [binOp,Op.intDiv,hb',Int.tdiv_eq_ediv_of_nonneg h0,wrap_i64 (show -9223372036854775808≤a / b by omega) (show a / b≤9223372036854775807 by omega)]))
theorem Ev.x7 {t yt:TypeId} {x y:Operand} {a b:Int} (hx:evE env x=some (.int .i64 a)) (hy:evE env y=some (.int .i64 b)) (h0 : -9223372036854775808≤a) (h1:a≤9223372036854775807) (hb:0<b):Ev P L env (.binOp .quo t x y yt) ty (.int .i64 (a.tdiv b)) :=
 Ev.mk (fun _ _ _ w ea _ _ _ _ _=>eP (ao ea hx) (ao ea hy) (by
  have hb' : b≠0:=by omega
  have h2:=oO h0 h1 hb
  simp [binOp,Op.intDiv,hb',wrap_i64 h2.1 h2.2]))
theorem Ev.rem {t yt:TypeId} {x y:Operand} {k:IntKind} {a b:Int} (hx:evE env x=some (.int k a)) (hy:evE env y=some (.int k b)) (h0:0≤a) (hb:0<b):Ev P L env (.binOp .rem t x y yt) ty (.int k (a % b)) :=
 Ev.mk (fun _ _ _ w ea _ _ _ _ _=>eP (ao ea hx) (ao ea hy) (by
  have hb' : b≠0:=by omega
  simp [binOp,Op.intDiv,hb',Int.tmod_eq_emod_of_nonneg h0]))
theorem Ev.x6 {t yt:TypeId} {x y:Operand} {k:IntKind} {a b:Int} (hx:evE env x=some (.int k a)) (hy:evE env y=some (.int k b)) (hb:b≠0):Ev P L env (.binOp .rem t x y yt) ty (.int k (a.tmod b)) :=
 Ev.mk (fun _ _ _ w ea _ _ _ _ _=>eP (ao ea hx) (ao ea hy) (by simp [binOp,Op.intDiv,hb]))
theorem Ev.neg {t:TypeId} {x:Operand} {a:Int} (hx:evE env x=some (.int .i64 a)) (h0 : -9223372036854775807≤a) (h1:a≤9223372036854775807):Ev P L env (.unOp .neg t x) ty (.int .i64 (-a)) :=
 Ev.mk (fun _ _ _ w ea _ _ _ _ _=>by
  have hw:IntKind.i64.wrap (0 - a) = -a:=by rw [wrap_i64 (by omega) (by omega)];omega
  simp [execOp,ao ea hx,Op.unary,Op.intArith] at hw ⊢
  exact hw)
theorem Ev.not {t:TypeId} {x:Operand} {φ:Prop} [Decidable φ] (hx:evE env x=some (.bool (dB φ))):Ev P L env (.unOp .not t x) ty (.bool (dB (¬φ))) :=
 Ev.mk (fun _ _ _ w ea _ _ _ _ _=>by simp [execOp,ao ea hx,Op.unary,cu])
theorem Ev.o0 {t:TypeId} {x:Operand} {b:Bool} (hx:evE env x=some (.bool b)):Ev P L env (.unOp .not t x) ty (.bool (!b)) :=
 Ev.mk (fun _ _ _ w ea _ _ _ _ _=>by simp [execOp,ao ea hx,Op.unary])
theorem Ev.x9 {t:TypeId} {x:Operand} (hx:evE env x=some (.bool true)):Ev P L env (.unOp .not t x) ty (.bool false):=Ev.o0 hx
theorem Ev.y6 {t:TypeId} {x:Operand} (hx:evE env x=some (.bool false)):Ev P L env (.unOp .not t x) ty (.bool true):=Ev.o0 hx
theorem Ev.conv {s t:TypeId} {x:Operand} {k k' : IntKind} {a:Int} [hs:TyInt P s k] [ht:TyInt P t k'] (hx:evE env x=some (.int k a)):Ev P L env (.convert s t x) ty (.int k' (k'.wrap a)) :=
 Ev.mk (fun _ _ _ w ea _ _ _ _ _=>by simp [execOp,ao ea hx,convert,run_underlying hs.under,run_underlying ht.under,Conv.intToInt])
theorem Ev.min2 {x y:Operand} {ats:Array TypeId} {k k' : IntKind} {a b:Int} (hx:evE env x=some (.int k a)) (hy:evE env y=some (.int k' b)):Ev P L env (.call { callee:=.builtin .min,args:=#[x,y],argTypes:=ats }) ty (.int k (min a b)) :=
 Ev.mk (fun _ _ _ w ea _ _ _ _ _=>by
  have hm:(if b<a then b else a)=min a b:=by split<;>omega
  simp [execOp,resolve,invoke,builtin,ao ea hx,ao ea hy,Builtin.min_,Builtin.min2,hm])
theorem Ev.max2 {x y:Operand} {ats:Array TypeId} {k k' : IntKind} {a b:Int} (hx:evE env x=some (.int k a)) (hy:evE env y=some (.int k' b)):Ev P L env (.call { callee:=.builtin .max,args:=#[x,y],argTypes:=ats }) ty (.int k (max a b)) :=
 Ev.mk (fun _ _ _ w ea _ _ _ _ _=>by
  have hm:(if a<b then b else a)=max a b:=by split<;>omega
  have hm' : (if b>a then b else a)=max a b:=by split<;>omega
  simp [execOp,resolve,invoke,builtin,ao ea hx,ao ea hy,Builtin.max_,Builtin.max2]
  first|exact hm|exact hm' | omega)
theorem Ev.nilCheck {x:Operand} {a:Addr} (hx:evE env x=some (.pointer (some a))):Ev P L env (.nilCheck x) ty (.pointer (some a)) :=
 Ev.mk (fun _ _ _ w ea _ _ _ _ _=>by simp [execOp,ao ea hx])
theorem gG {t:TypeId} {u v:Value} {r:Bool} {w:World} (h:∀ n,(Op.equalIn (n+1) t u v).run P w=.ok r w):(Op.equal t u v).run P w=.ok r w:=h 9999
theorem ko {t e:TypeId} {p q:Option Addr} {w:World} {n:Nat} (he:P.underlying t=some (.pointer e)) (hq:p=none∨q=none):(Op.equalIn (n+1) t (.pointer p) (.pointer q)).run P w=.ok (decide (p=q)) w:=by
 rcases hq with rfl|rfl
 ·cases q<;>simp [Op.equalIn,run_underlying he]
 ·cases p<;>simp [Op.equalIn,run_underlying he]
theorem wl {t e:TypeId} {ad:Option Addr} {k c:Nat} {w:World} {n:Nat} (he:P.underlying t=some (.slice e)):(Op.equalIn (n+1) t (.slice ad k c) (.slice none 0 0)).run P w=.ok (decide (ad=none)) w:=by
 cases ad<;>simp [Op.equalIn,run_underlying he]
theorem Ev.u6 {t yt:TypeId} {x y:Operand} {a:Addr} [ht:TyPtr P t] (hx:evE env x=some (.pointer (some a))) (hy:evE env y=some (.pointer none)):Ev P L env (.binOp .eql t x y yt) ty (.bool false) :=
 Ev.mk (fun _ _ _ w ea _ _ _ _ _=>by
  obtain ⟨e,he⟩:=ht.under
  have h1:=gG (P:=P) (w:=w) (fun n=>ko (n:=n) (p:=some a) (q:=none) he (.inr rfl))
  simp [execOp,ao ea hx,ao ea hy,eqGuard,binOp,h1])
theorem Ev.r9 {t yt:TypeId} {x y:Operand} {a:Addr} [ht:TyPtr P t] (hx:evE env x=some (.pointer (some a))) (hy:evE env y=some (.pointer none)):Ev P L env (.binOp .neq t x y yt) ty (.bool true) :=
 Ev.mk (fun _ _ _ w ea _ _ _ _ _=>by
  obtain ⟨e,he⟩:=ht.under
  have h1:=gG (P:=P) (w:=w) (fun n=>ko (n:=n) (p:=some a) (q:=none) he (.inr rfl))
  simp [execOp,ao ea hx,ao ea hy,eqGuard,binOp,h1])
theorem Ev.o9 {t yt:TypeId} {x y:Operand} [ht:TyPtr P t] (hx:evE env x=some (.pointer none)) (hy:evE env y=some (.pointer none)):Ev P L env (.binOp .eql t x y yt) ty (.bool true) :=
 Ev.mk (fun _ _ _ w ea _ _ _ _ _=>by
  obtain ⟨e,he⟩:=ht.under
  have h1:=gG (P:=P) (w:=w) (fun n=>ko (n:=n) (p:=none) (q:=none) he (.inr rfl))
  simp [execOp,ao ea hx,ao ea hy,eqGuard,binOp,h1])
theorem Ev.w5 {t yt:TypeId} {x y:Operand} {ad:Option Addr} {n c E sz bb:Nat} {z:List Value} [ht:TySl P t E sz bb z] (hx:evE env x=some (.slice ad n c)) (hy:evE env y=some (.slice none 0 0)):Ev P L env (.binOp .eql t x y yt) ty (.bool (dB (ad=none))) :=
 Ev.mk (fun _ _ _ w ea _ _ _ _ _=>by
  have h1:=gG (P:=P) (w:=w) (fun m=>wl (n:=m) (ad:=ad) (k:=n) (c:=c) ht.under)
  simp [execOp,ao ea hx,ao ea hy,eqGuard,binOp,h1,cu])
theorem nu {s f:Nat} {off:Nat} [hf:Fld P s f off] {a:Addr} {w:World}:(Instr.fieldAt s (.pointer (some a)) f).run P w=.ok (.pointer (some (a.add off))) w:=by
 obtain ⟨fs,fd,i,h1,h2,h3,h4,h5⟩:=hf.run
 subst h3
 simp [Instr.fieldAt,run_underlying h1,h2,Instr.sureAddr,fieldPlace,sizeOf,typeInfo,h4,h5]
theorem Ev.fieldAddr {s f:Nat} {x:Operand} {b off:Nat} [Fld P s f off] (hx:evE env x=some (.pointer (some ⟨b,0,none⟩))):Ev P L env (.fieldAddr s x f) ty (.pointer (some ⟨b,off,none⟩)) :=
 Ev.mk (fun _ _ _ w ea _ _ _ _ _=>by simp [execOp,ao ea hx,nu,dY])
theorem Ev.f8 {s f:Nat} {x:Operand} {b o off:Nat} [Fld P s f off] (hx:evE env x=some (.pointer (some ⟨b,o,none⟩))):Ev P L env (.fieldAddr s x f) ty (.pointer (some ⟨b,o+off,none⟩)) :=
 Ev.mk (fun _ _ _ w ea _ _ _ _ _=>by simp [execOp,ao ea hx,nu,gr])
theorem Ev.a8 {s f:Nat} {x:Operand} {ad:Option Addr} {sz j off:Nat} [Fld P s f off] {α:Type} {enc:α→List Value} {xs:List α} [hr:Rds L ad α enc sz xs] (hx:evE env x=some (.pointer (elP ad sz j 0))) (hj:j<xs.length):Ev P L env (.fieldAddr s x f) ty (.pointer (elP ad sz j off)) :=
 Ev.mk (fun θ R _ w ea s _ _ _ _=>by
  obtain ⟨_,h2⟩:=hr.rd θ R w s
  rcases h2 with h2|⟨a,rfl,_⟩
  ·subst h2;simp at hj
  ·have e:(a.add (j*sz+0)).add off=a.add (j*sz+off):=by
    unfold Addr.add
    (repeat' split)<;>first|rfl|omega|(simp;omega)|(simp_all;done)
   simp only [Nat.add_zero] at e
   simp [execOp,ao ea hx,elP,nu,e])
theorem Ev.indexAddr {t:TypeId} {x i:Operand} {ad:Option Addr} {n c E sz bb:Nat} {z:List Value} {j:Int} {k:IntKind} {α:Type} {enc:α→List Value} {xs:List α} [ht:TySl P t E sz bb z] [hr:Rds L ad α enc sz xs]
  (hx:evE env x=some (.slice ad n c)) (hi:evE env i=some (.int k j)) (h0:0≤j) (h1:j<n) (hn:n≤xs.length):Ev P L env (.indexAddr t x i) ty (.pointer (elP ad sz j.toNat 0)) :=
 Ev.mk (fun θ R _ w ea s _ _ _ _=>by
  obtain ⟨_,h2⟩:=hr.rd θ R w s
  obtain ⟨ii,z0,i1,i2,i3,i4,i5⟩:=ht.parts
  rcases h2 with h2|⟨a,rfl,_⟩
  ·subst h2;simp at hn;omega
  ·simp [execOp,ao ea hx,ao ea hi,Instr.indexAt,asIntOf,run_underlying ht.under,h0,h1,sizeOf,typeInfo,i1,i4,elP])
theorem Ev.c8 {t:TypeId} {x i:Operand} {b n c E sz bb:Nat} {z:List Value} {j:Int} {k:IntKind} [ht:TySl P t E sz bb z]
  (hx:evE env x=some (.slice (some ⟨b,0,none⟩) n c)) (hi:evE env i=some (.int k j)) (h0:0≤j) (h1:j<n):Ev P L env (.indexAddr t x i) ty (.pointer (some ⟨b,j.toNat*sz,none⟩)) :=
 Ev.mk (fun θ R _ w ea s _ _ _ _=>by
  obtain ⟨ii,z0,i1,i2,i3,i4,i5⟩:=ht.parts
  simp [execOp,ao ea hx,ao ea hi,Instr.indexAt,asIntOf,run_underlying ht.under,h0,h1,sizeOf,typeInfo,i1,i4,dY])
theorem Sat.obj_heap {θ:Th} {b T:Nat} {cs:List Value} {L R:List HP} {w:World} (s:Sat θ (L++R) w) {Rest:List HP} (hp:L.Perm (obj b T cs::Rest)):w.heap[b]? = some (.cells cs.toArray T (0,0)) :=
 (s.perm (hp.append_right R)).own_heap
theorem Ev.c6 {t:TypeId} {x:Operand} {b k T:Nat} {cs:List Value} {Rest:List HP} {v:Value} [ht:TyOne P t] [hp:PickObj L b T cs Rest] (hx:evE env x=some (.pointer (some ⟨b,k,none⟩))) (hv:cs[k]? = some v):Ev P L env (.load t x) ty (v) :=
 Ev.mk (fun θ R _ w ea s _ _ _ _=>by
  have hb:=s.obj_heap hp.perm
  simp [execOp,ao ea hx,Instr.loadAt,Instr.sureAddr,loadVar,ht.run,cS hb,hv])
theorem Ev.d8 {t:TypeId} {x:Operand} {b T n:Nat} {cs:List Value} {Rest:List HP} [ht:TyAgg P t n] [hp:PickObj L b T cs Rest] (hx:evE env x=some (.pointer (some ⟨b,0,none⟩))) (hn:cs.length=n):Ev P L env (.load t x) ty (.agg cs.toArray) :=
 Ev.mk (fun θ R _ w ea s _ _ _ _=>by
  have hb:=s.obj_heap hp.perm
  have hl:=run_loadCells_list (P:=P) w ⟨b,0,none⟩ cs (fun j v hv=>by rw [dY,cS hb];simpa using hv)
  rw [hn] at hl
  simp [execOp,ao ea hx,Instr.loadAt,Instr.sureAddr,loadVar,ht.run,TyAgg.sizeOf_run,hl])
theorem Ev.a6 {t:TypeId} {x:Operand} {ad:Option Addr} {sz j o:Nat} {α:Type} [Inhabited α] {enc:α→List Value} {xs:List α} {v:Value} [ht:TyOne P t] [hr:Rds L ad α enc sz xs]
  (hx:evE env x=some (.pointer (elP ad sz j o))) (hj:j<xs.length) (ho:o<sz) (hv:(enc xs[j]!)[o]? = some v):Ev P L env (.load t x) ty (v) :=
 Ev.mk (fun θ R _ w ea s _ _ _ _=>by
  obtain ⟨h1,h2⟩:=hr.rd θ R w s
  rcases h2 with h2|⟨a,rfl,h3⟩
  ·subst h2;simp at hj
  ·have h4:=h3 (j*sz+o) v (by rw [mI h1 hj ho];exact hv)
   simp [execOp,ao ea hx,elP,Instr.loadAt,Instr.sureAddr,loadVar,ht.run,h4])
theorem Ev.k7 {t:TypeId} {x:Operand} {ad:Option Addr} {sz j:Nat} {α:Type} [Inhabited α] {enc:α→List Value} {xs:List α} [ht:TyAgg P t sz] [hr:Rds L ad α enc sz xs]
  (hx:evE env x=some (.pointer (elP ad sz j 0))) (hj:j<xs.length):Ev P L env (.load t x) ty (.agg (enc xs[j]!).toArray) :=
 Ev.mk (fun θ R _ w ea s _ _ _ _=>by
  obtain ⟨h1,h2⟩:=hr.rd θ R w s
  rcases h2 with h2|⟨a,rfl,h3⟩
  ·subst h2;simp at hj
  ·have hlen:(enc xs[j]!).length=sz:=h1 _ (by rw [List.getElem!_eq_getElem?_getD,List.getElem?_eq_getElem hj];simp)
   have hl:=run_loadCells_list (P:=P) w (a.add (j*sz)) (enc xs[j]!) (fun o v hv=>by
    have ho:o<sz:=by rw [← hlen];exact (List.getElem?_eq_some_iff.1 hv).1
    have e:(a.add (j*sz)).add o=a.add (j*sz+o):=by
     unfold Addr.add
     (repeat' split)<;>first|rfl|omega|(simp;omega)|(simp_all;done)
    rw [e]
    exact h3 _ v (by rw [mI h1 hj ho];exact hv))
   rw [hlen] at hl
   simp [execOp,ao ea hx,elP,Instr.loadAt,Instr.sureAddr,loadVar,ht.run,TyAgg.sizeOf_run,hl])
theorem jW {w:World} {b k:Nat} {cs:Array Value} {T:TypeId} {fz:Nat×Nat} (v:Value) (h:w.heap[b]? = some (.cells cs T fz)):(w.setCell ⟨b,k,none⟩ v).heap[b]? = some (.cells (cs.setIfInBounds k v) T fz):=by
 simp [World.setCell,Array.getElem?_modify,h]
theorem jG {w:World} {b k j:Nat} (v:Value) (h:j≠b):(w.setCell ⟨b,k,none⟩ v).heap[j]? = w.heap[j]?:=by
 simp only [World.setCell,Array.getElem?_modify]
 rw [if_neg (by omega)]
def mR:List Value→Nat→Value→(List Value→Option (List Value))→Option (List Value)
 | [],_,_,_=>none
 | _::cs,0,v,k=>k (v::cs)
 | c::cs,n+1,v,k=>mR cs n v fun r=>k (c::r)
theorem pM:∀ (cs:List Value) (n:Nat) (v:Value) (k:List Value→Option (List Value)) (r:List Value),mR cs n v k=some r→n<cs.length∧k (cs.set n v)=some r
 | [],_,_,_,_,h=>by simp [mR] at h
 | _::cs,0,v,k,r,h=>by simpa [mR] using h
 | c::cs,n+1,v,k,r,h=>by
  have:=pM cs n v (fun r=>k (c::r)) r (by simpa [mR] using h)
  simpa using this
theorem Ef.e7 {t:TypeId} {x y:Operand} {b k T:Nat} {cs cs' : List Value} {Rest:List HP} {v:Value} [ht:TyOne P t] [hp:PickObj L b T cs Rest] (hx:evE env x=some (.pointer (some ⟨b,k,none⟩))) (hy:evE env y=some v) (h1:v.oneCell' = true) (hset:mR cs k v some=some cs')
  : Ef P L env (.store t x y) ty (fun _ L'=>L' = obj b T cs'::Rest) :=
 Ef.skip (fun θ R a w ea s dst pos af g=>by
  have s1:=s.perm (hp.perm.append_right R)
  have hb:w.heap[b]? = some (.cells cs.toArray T (0,0)):=s1.own_heap
  obtain ⟨hlt,hset'⟩:=pM _ _ _ _ _ hset
  have hset2:cs.set k v=cs':=by simpa using hset'
  subst hset2
  have hcell:w.cell? ⟨b,k,none⟩=some cs[k]:=by rw [cS hb];simp
  have hfz:w.frozen? ⟨b,k,none⟩=false:=by simp [World.frozen?,hb]
  have hc1:v.cells=#[v]:=by cases v<;>first|rfl|cases h1
  refine ⟨w.setCell ⟨b,k,none⟩ v,_,?_,rfl,?_⟩
  ·simp [execOp,ao ea hx,ao ea hy,Instr.storeAt,Instr.sureAddr,storeVar,TyOne.sizeOf_run,hc1,storeCells,Addr.add,run_store _ _ _ _ _ h1,hcell,hfz]
  ·refine Sat.update s1 ⟨s.1.tape,s.1.os,s.1.output,s.1.drawn⟩ ?_ (fun j x hj hx=>by rw [jG v hj];exact hx)
   rw [jW v hb]
   simp)
theorem Ef.c9 {t:TypeId} {x y:Operand} {b T n:Nat} {cs vs:List Value} {Rest:List HP} [ht:TyAgg P t n] [hp:PickObj L b T cs Rest] (hx:evE env x=some (.pointer (some ⟨b,0,none⟩))) (hy:evE env y=some (.agg vs.toArray)) (hn:vs.length=n) (hc:cs.length=n) (h1:∀ v∈vs,v.oneCell' = true)
  : Ef P L env (.store t x y) ty (fun _ L'=>L' = obj b T vs::Rest) :=
 Ef.skip (fun θ R a w ea s dst pos af g=>by
  have s1:=s.perm (hp.perm.append_right R)
  have hb:w.heap[b]? = some (.cells cs.toArray T (0,0)):=s1.own_heap
  have hst:=run_storeCells_at P b 0 T vs 0 cs.toArray w hb (by simp;omega) h1
  refine ⟨w.setRow b vs.toArray,_,?_,rfl,?_⟩
  ·simp [execOp,ao ea hx,ao ea hy,Instr.storeAt,Instr.sureAddr,storeVar,TyAgg.sizeOf_run,Value.cells,hn] at hst ⊢
   rw [hst]
   simp [show List.drop n cs=[] by rw [← hc];simp]
  ·exact Sat.update s1 ⟨s.1.tape,s.1.os,s.1.output,s.1.drawn⟩ (setRow_heap w b _ _ T _ hb) (fun j x hj hx=>by rw [setRow_other w b j _ hj];exact hx))
theorem Ef.g6 {t:TypeId} {x:Operand} {vs:List Value} (hx:evE env x=some (.agg vs.toArray)):Ef P L env (.box t x) ty (fun v L'=>∃ b,v=.pointer (some ⟨b,0,none⟩)∧L' = obj b t vs::L) :=
 Ef.val (fun θ R a w ea s dst pos af g=>⟨_,w.alloc (.cells vs.toArray t),_,by simp [execOp,ao ea hx,Instr.box,newVar,newRow,Value.cells],⟨_,rfl,rfl⟩,s.alloc⟩)
theorem Ef.g8 {t:TypeId} {x:Operand} {v:Value} (hx:evE env x=some v) (h1:v.oneCell' = true):Ef P L env (.box t x) ty (fun u L'=>∃ b,u=.pointer (some ⟨b,0,none⟩)∧L' = obj b t [v]::L) :=
 Ef.val (fun θ R a w ea s dst pos af g=>⟨_,w.alloc (.cells #[v] t),_,by
  have hc1:v.cells=#[v]:=by cases v<;>first|rfl|cases h1
  simp [execOp,ao ea hx,Instr.box,newVar,newRow,hc1],⟨_,rfl,rfl⟩,s.alloc⟩)
class ZeroT (P:Program) (T:Nat) (z:outParam (List Value)):Prop where
 zero:(P.info? T).map (fun i=>i.zero.map (·.cells.toList))=some (some z)
theorem ZeroT.run {P:Program} {T:Nat} {z:List Value} [h:ZeroT P T z] (w:World):∃ z0,(zeroValue T).run P w=.ok z0 w∧z0.cells=z.toArray:=by
 have h1:=h.zero
 cases hi:P.info? T with
 | none=>rw [hi] at h1;cases h1
 | some i =>
  rw [hi] at h1
  simp at h1
  obtain ⟨z0,hz,hz'⟩:=h1
  exact ⟨z0,by simp [zeroValue,typeInfo,hi,hz],by rw [← hz']⟩
theorem Ef.alloc {t:TypeId} {z:List Value} [hz:ZeroT P t z]:Ef P L env (.alloc t) ty (fun u L'=>∃ b,u=.pointer (some ⟨b,0,none⟩)∧L' = obj b t z::L) :=
 Ef.val (fun θ R a w ea s dst pos af g=>⟨_,w.alloc (.cells z.toArray t),_,by
  obtain ⟨z0,h1,h2⟩:=hz.run w
  simp [execOp,Instr.alloc,h1,newVar,newRow,h2],⟨_,rfl,rfl⟩,s.alloc⟩)
def pE (z:List Value) (sz len:Nat) (parts:List (Nat×Value)):Option (List Value) :=
 (Instr.fill (fun i=>some (i*sz,sz)) ((Array.range (len*sz)).map (z.toArray[· % z.length]!)) parts).map (·.toList)
theorem Ef.buildSlice {t:TypeId} {len:Nat} {ps:Array (Nat×Operand)} {vs:List (Nat×Value)} {E sz bb:Nat} {z cs:List Value} [ht:TySl P t E sz bb z] (hv:iK env ps.toList=some vs) (hl:len*sz≤16777216) (hc:pE z sz len vs=some cs)
  : Ef P L env (.buildSlice t len ps) ty (fun v L'=>∃ b,v=.slice (some ⟨b,0,none⟩) len len∧L' = obj b E cs::L) :=
 Ef.val (fun θ R a w ea s dst pos af g=>⟨.slice (some ⟨w.heap.size,0,none⟩) len len,w.alloc (.cells cs.toArray E),_,by
  obtain ⟨ii,z0,i1,i2,i3,i4,i5⟩:=ht.parts
  have hargs:ps.map (fun p=>(p.1,a p.2))=vs.toArray:=by
   apply Array.ext'
   simpa using ea.pairs ps.toList vs hv
  have hz:z0.cells=z.toArray:=by rw [← i3]
  simp only [pE,Option.map_eq_some_iff] at hc
  obtain ⟨ar,hc1,hc2⟩:=hc
  subst hc2
  have hnot:¬len*sz>2 ^ 24:=by omega
  simp only [execOp,hargs,Instr.buildSlice,Sem.run_bind,run_underlying ht.under,Result.andThen_ok,sizeOf,typeInfo,run_program,i1,Sem.run_pure,i4,hnot,if_false,zeroValue]
  by_cases h0:len*sz=0
  ·simp only [h0,if_true]
   have e0:(Array.range 0:Array Nat)=#[]:=rfl
   simp only [h0,e0,List.map_toArray,List.map_nil] at hc1 ⊢
   simp only [hc1]
   simp [newRow]
  ·simp only [h0,if_false,Sem.run_bind,run_program,Result.andThen_ok,i1,Sem.run_pure,i2,hz,List.size_toArray]
   simp only [hc1]
   simp [newRow],⟨_,rfl,rfl⟩,s.alloc⟩)
theorem Ev.w8 {t:TypeId} {x:Operand} {ad:Option Addr} {n c E sz bb:Nat} {z:List Value} [ht:TySl P t E sz bb z] (hx:evE env x=some (.slice ad n c)):Ev P L env (.call { callee:=.builtin .len,args:=#[x],argTypes:=#[t] }) ty (.int .i64 (n:Int)) :=
 Ev.mk (fun _ _ _ w ea _ _ _ _ _=>by simp [execOp,resolve,invoke,builtin,ao ea hx,Builtin.len_,run_underlying ht.under,goInt])
theorem uT {α:Type} {θ:Th} {enc:α→List Value} {sz E:Nat} {ad:Option Addr} {cap:Nat} {xs:List α} {L:List HP} {w:World} (s:Sat θ (osl enc sz E ad cap xs::L) w):w.ownsRow 0 E sz (.slice ad xs.length cap) xs.length (xs.flatMap enc):=by
 obtain ⟨h1,h2,h3,h4⟩:=s.osl_parts
 refine ⟨cA h1,?_⟩
 rcases h4 with ⟨rfl,rfl⟩|⟨g,cur,rfl,f1,f2,f3⟩
 ·left;have:xs.length=0:=by omega
  simp [this]
 ·exact .inr ⟨g,cap,cur,rfl,Nat.zero_le _,f3.own_heap,h2,h3,f1,f2⟩
theorem sB {α:Type} {θ:Th} {enc:α→List Value} {sz E:Nat} {ad:Option Addr} {cap:Nat} {xs ys:List α} {L:List HP} {w w' : World} (s:Sat θ (osl enc sz E ad cap xs::L) w) (hy:∀ x∈ys,(enc x).length=sz) {v' : Value}
  (ho:w'.ownsRow 0 E sz v' (xs.length+ys.length) (xs.flatMap enc++ys.flatMap enc)) (hg:w.grownBy w' (Value.ownBlock (.slice ad xs.length cap))) (hdr:w.drawn≤w'.drawn) (hat:v'.ownBlock=Value.ownBlock (.slice ad xs.length cap)∨v'.ownBlock=some w.heap.size) :
  ∃ ad' cap',v' = .slice ad' (xs++ys).length cap'∧Sat θ (osl enc sz E ad' cap' (xs++ys)::L) w':=by
 obtain ⟨h1,h2,h3,h4⟩:=s.osl_parts
 have hall:∀ x∈xs++ys,(enc x).length=sz:=fun x hx=>by
  rcases List.mem_append.1 hx with hx|hx
  ·exact h1 x hx
  ·exact hy x hx
 have ok:θ.ok w':=⟨by rw [hg.tape];exact s.1.tape,by rw [hg.os];exact s.1.os,by rw [hg.output];exact s.1.output,Nat.le_trans s.1.drawn hdr⟩
 rcases ho.2 with ⟨rfl,hn⟩|⟨g,cap',cur,rfl,_,hgg,hnc,hcm,hcs,htake⟩
 ·have hx:xs=[]:=List.eq_nil_of_length_eq_zero (by omega)
  have hy:ys=[]:=List.eq_nil_of_length_eq_zero (by omega)
  subst hx hy
  refine ⟨none,0,rfl,Sat.d7 enc sz E ?_⟩
  refine s.tail.keep ok (fun k o hk=>?_)
  have hlt:k<w.heap.size:=(Array.getElem?_eq_some_iff.1 hk).1
  by_cases hrow:some k=Value.ownBlock (.slice ad ([]:List α).length cap)
  ·rcases h4 with ⟨rfl,rfl⟩|⟨g,cur,rfl,f1,f2,f3⟩
   ·simp [Value.ownBlock] at hrow
   ·simp [Value.ownBlock] at hrow hat
  ·rw [hg.block k hlt hrow];exact hk
 ·refine ⟨some ⟨g,0,none⟩,cap',by simp,?_⟩
  have hlen:(xs++ys).length=xs.length+ys.length:=by simp
  have fin:Sat θ (own g (.cells cur E (0,0))::L) w'→Sat θ (osl enc sz E (some ⟨g,0,none⟩) cap' (xs++ys)::L) w':=fun s' =>
   s'.osl_mk hall (by omega) hcm hcs (by rw [hlen,htake];simp)
  apply fin
  simp only [Value.ownBlock] at hat hg
  rcases h4 with ⟨rfl,rfl⟩|⟨g0,cur0,rfl,f1,f2,f3⟩
  ·simp at hat
   subst hat
   exact s.tail.fresh ok (Nat.le_refl _) hgg (fun k x hk=>by rw [hg.block k (Array.getElem?_eq_some_iff.1 hk).1 (by simp)];exact hk)
  ·simp at hat
   rcases hat with rfl|rfl
   ·exact f3.update ok hgg (fun k x hk hx=>by rw [hg.block k (Array.getElem?_eq_some_iff.1 hx).1 (by simpa using hk)];exact hx)
   ·have s5:=f3.tail
    have hne:g0≠w.heap.size:=by
     have:=(Array.getElem?_eq_some_iff.1 f3.own_heap).1
     omega
    -- the old row is given up
    obtain ⟨ok0,ι,h,a,b1,c,ι₀,h₁,h₂,d1,d2,d3,d4,d5,d6⟩:=f3
    have s6:Sat θ L { w with heap:=w.heap.setIfInBounds g0 ((w'.heap[g0]?).getD default) }:=by
     refine ⟨⟨ok0.tape,ok0.os,ok0.output,ok0.drawn⟩,ι,h₂,a.mono (Hp.sub.refl _) d4,?_,?_,d6⟩
     ·intro k o hk
      have hk0:k≠g0:=by
       rintro rfl
       have:=a k o hk
       rw [d3 k _ d5] at this;cases this
      have:=b1 k o hk
      simp only [el] at this ⊢
      rw [Array.getElem?_setIfInBounds_ne (Ne.symm hk0)]
      exact this
     ·intro k o hk
      have hk0:k≠g0:=by
       rintro rfl
       have:=d2 k _ d5
       rw [hk] at this;cases this
      have:=c k o (d4 k o hk)
      simp only [el] at this ⊢
      rw [Array.getElem?_setIfInBounds_ne (Ne.symm hk0)]
      exact this
    refine s6.fresh ok (by simp) hgg (fun k x hk=>?_)
    by_cases hk0:k=g0
    ·subst hk0
     have hlt:k<w.heap.size:=by
      have:=c k _ (d3 k _ d5)
      exact (Array.getElem?_eq_some_iff.1 this).1
     simp [hlt] at hk
     have hlt' : k<w'.heap.size:=Nat.lt_of_lt_of_le hlt hg.size
     rw [Array.getElem?_eq_getElem hlt'] at hk ⊢
     simpa using hk
    ·simp only at hk
     rw [Array.getElem?_setIfInBounds_ne (Ne.symm hk0)] at hk
     rw [hg.block k (Array.getElem?_eq_some_iff.1 hk).1 (by simpa using hk0)]
     exact hk
theorem Ef.a7 {t:TypeId} {x y:Operand} {α:Type} {enc:α→List Value} {ad:Option Addr} {n c sz E bb cap b T:Nat} {xs:List α} {z cs:List Value} {R1 R2:List HP} (e:α) [ht:TySl P t E sz bb z] [hp:PickOsl L ad α enc sz E cap xs R1] [hq:PickObj R1 b T cs R2]
  (hx:evE env x=some (.slice ad n c)) (hy:evE env y=some (.slice (some ⟨b,0,none⟩) 1 1)) (he:cs=enc e) (hn:n=xs.length) (hc:c=cap) (hs:cs.length=sz) (h1:∀ u∈cs,u.oneCell' = true) (hb:(xs.length+1)*bb≤140737488355328) (hm:xs.length+1≤9223372036854775807)
  : Ef P L env (.call { callee:=.builtin .append,args:=#[x,y],argTypes:=#[t,t] }) ty (fun v L'=>∃ ad' cap',v=.slice ad' (xs++[e]).length cap'∧L' = osl enc sz E ad' cap' (xs++[e])::R2) :=
 Ef.val (fun θ R a w ea s dst pos af g=>by
  subst hn hc he
  have s1:=s.perm (hp.perm.append_right R)
  have hown:=uT s1
  have hbk:=Sat.obj_heap (R:=R) (show Sat θ (R1++R) w from s1.tail) hq.perm
  obtain ⟨ii,z0,i1,i2,i3,i4,i5⟩:=ht.parts
  obtain ⟨v',w',hr,h2,h3,_,h5⟩:=run_append_own_at (P:=P) w 0 t ty E ii z0 sz bb ht.under i1 i2 i4 i5 (by rw [← ht.zlen,← i3];simp) ht.pos _ _ _ hown ⟨b,0,none⟩ 1 1 (enc e) (by omega) (fun j u hu=>by rw [dY,cS hbk];simpa using hu) h1 (by simp only [maxLen];omega) hb (Nat.zero_le _)
  obtain ⟨ad',cap',rfl,s2⟩:=sB (ys:=[e]) s1 (by simpa using hs) (by simpa using h2) h3 (sn _ hr) h5
  refine ⟨_,w',_,?_,⟨ad',cap',rfl,rfl⟩,?_⟩
  ·simp [execOp,resolve,invoke,builtin,ao ea hx,ao ea hy,hr]
  ·have s3:Sat θ (osl enc sz E ad' cap' (xs++[e])::(obj b T (enc e)::R2++R)) w':=s2.perm ((hq.perm.append_right R).cons _)
   exact (s3.perm (List.Perm.swap _ _ _)).tail)
theorem Ef.c6 {t:TypeId} {x y:Operand} {α:Type} {enc:α→List Value} {ad ad2:Option Addr} {n c n2 c2 sz E bb cap:Nat} {xs ys:List α} {z:List Value} {R1:List HP} [ht:TySl P t E sz bb z] [hp:PickOsl L ad α enc sz E cap xs R1] [hq:Rds R1 ad2 α enc sz ys]
  (hx:evE env x=some (.slice ad n c)) (hy:evE env y=some (.slice ad2 n2 c2)) (hn:n=xs.length) (hc:c=cap) (hn2:n2=ys.length) (h1:∀ e∈ys,∀ u∈enc e,u.oneCell' = true) (hb:(xs.length+ys.length)*bb≤140737488355328) (hm:xs.length+ys.length≤9223372036854775807)
  : Ef P L env (.call { callee:=.builtin .append,args:=#[x,y],argTypes:=#[t,t] }) ty (fun v L'=>∃ ad' cap',v=.slice ad' (xs++ys).length cap'∧L' = osl enc sz E ad' cap' (xs++ys)::R1) :=
 Ef.val (fun θ R a w ea s dst pos af g=>by
  subst hn hc hn2
  have s1:=s.perm (hp.perm.append_right R)
  have hown:=uT s1
  obtain ⟨g1,g2⟩:=hq.rd θ R w s1.tail
  obtain ⟨ii,z0,i1,i2,i3,i4,i5⟩:=ht.parts
  have h1' : ∀ u∈ys.flatMap enc,u.oneCell' = true:=fun u hu=>by
   obtain ⟨e,he,hu⟩:=List.mem_flatMap.1 hu
   exact h1 e he u hu
  rcases ad2 with _|a2
  ·rcases g2 with g2|⟨a,ha,_⟩
   ·subst g2
    refine ⟨.slice ad xs.length c,w,_,?_,⟨ad,c,by simp,rfl⟩,by simpa using s1⟩
    have hcap:xs.length≤c:=s1.osl_parts.2.1
    simp [execOp,resolve,invoke,builtin,ao ea hx,ao ea hy,Builtin.append_,run_underlying ht.under,sizeOf,typeInfo,i1,Builtin.lenOf,hcap,Builtin.firstCells]
    cases ad<;>simp [storeCells]
   ·cases ha
  ·have hnews:∀ j u,(ys.flatMap enc)[j]? = some u→w.cell? (a2.add j)=some u:=by
    rcases g2 with g2|⟨a,ha,g3⟩
    ·subst g2;simp
    ·cases ha;exact g3
   obtain ⟨v',w',hr,h2,h3,_,h5⟩:=run_append_own_at (P:=P) w 0 t ty E ii z0 sz bb ht.under i1 i2 i4 i5 (by rw [← ht.zlen,← i3];simp) ht.pos _ _ _ hown a2 ys.length c2 (ys.flatMap enc) (cA g1) hnews h1' (by simp only [maxLen];omega) hb (Nat.zero_le _)
   obtain ⟨ad',cap',rfl,s2⟩:=sB (ys:=ys) s1 g1 h2 h3 (sn _ hr) h5
   refine ⟨_,w',_,?_,⟨ad',cap',rfl,rfl⟩,s2⟩
   simp [execOp,resolve,invoke,builtin,ao ea hx,ao ea hy,hr])
end ops
end Go.V
namespace Go.V
section any
variable {P:Program} {ops:Array Oper} {Q:Exit→Act→World→Prop} {md:Region.Mode}
inductive Dep (md:Region.Mode) (ops:Array Oper):Nat→Nat→Prop where
 | one {j i:Nat} {o:Oper} {e:Edge}:ops[j]? = some o→e∈o.after→Region.binds md e=true→e.on=i→Dep md ops j i
 | more {j i:Nat} {o:Oper} {e:Edge}:ops[j]? = some o→e∈o.after→Region.binds md e=true→Dep md ops e.on i→Dep md ops j i
def Closed (md:Region.Mode) (ops:Array Oper) (listed:Array Bool):Prop:=∀ j o,ops[j]? = some o→listed.getD j false=true→∀ e∈o.after,Region.binds md e=true→listed.getD e.on false=true
theorem Closed.dep {listed:Array Bool} (h:Closed md ops listed) {j i:Nat} (hd:Dep md ops j i) (hj:∀ o,ops[j]? = some o→∀ e∈o.after,Region.binds md e=true→listed.getD e.on false=true):listed.getD i false=true:=by
 induction hd with
 | one h1 h2 h3 h4=>subst h4;exact hj _ h1 _ h2 h3
 | more h1 h2 h3 _ ih=>exact ih fun o ho e he hb=>h _ o ho (hj _ h1 _ h2 h3) e he hb
theorem Closed.set {listed:Array Bool} (h:Closed md ops listed) {i:Nat} (hi:i∈Region.ready md ops listed):Closed md ops (listed.setIfInBounds i true):=by
 intro j o ho hj e he hb
 obtain ⟨_,oi,hoi,hall⟩:=mem_ready.1 hi
 by_cases hij:i=j
 ·subst hij
  rw [hoi] at ho;cases ho
  exact getD_set_true (hall e he hb)
 ·rw [getD_set_ne false hij] at hj
  exact getD_set_true (h j o ho hj e he hb)
theorem Closed.start (n:Nat):Closed md ops (Array.replicate n false):=by
 intro j o _ hj
 simp [Array.getElem?_replicate] at hj
 split at hj<;>simp at hj
abbrev Pend:=List (Nat×(World→Prop))
def kp (dep:Nat→Nat→Bool) (j:Nat) (S:Pend):Pend:=S.filter fun p=>!dep j p.1
def wpAnyP (P:Program) (md:Region.Mode) (ops:Array Oper) (Q:Exit→Act→World→Prop) (dep:Nat→Nat→Bool):Nat→Array Bool→Pend→Act→World→Prop
 | 0,listed,_,a,w=>Region.ready md ops listed=[]∧Q .normal a w
 | fuel+1,listed,S,a,w =>
  (Region.ready md ops listed=[]→Q .normal a w) ∧
  ∀ j∈Region.ready md ops listed,wpOp P ops Q j (fun a' w'=>(∀ p∈kp dep j S,p.2 w')∧wpAnyP P md ops Q dep fuel (listed.setIfInBounds j true) (kp dep j S) a' w') a w
variable {dep:Nat→Nat→Bool}
theorem wpAnyP.a6:∀ (fuel:Nat) (listed:Array Bool) (S:Pend) (a:Act) (w:World),wpAnyP P md ops Q dep fuel listed S a w→wpAny P md ops Q fuel listed a w
 | 0,_,_,_,_,h=>h
 | fuel+1,_,_,_,_,h=>⟨h.1,fun j hj=>wpOp_mono (fun a' w' h'=>wpAnyP.a6 fuel _ _ a' w' h'.2) (h.2 j hj)⟩
theorem wpAnyP.less:∀ (fuel:Nat) (listed:Array Bool) (S S' : Pend) (a:Act) (w:World),(∀ p∈S',p∈S)→wpAnyP P md ops Q dep fuel listed S a w→wpAnyP P md ops Q dep fuel listed S' a w
 | 0,_,_,_,_,_,_,h=>h
 | fuel+1,_,S,S',_,_,hs,h=>⟨h.1,fun j hj=>wpOp_mono (fun a' w' h' =>
   have hk:∀ p∈kp dep j S',p∈kp dep j S:=fun p hp=>by
    unfold kp at *
    rw [List.mem_filter] at *
    exact ⟨hs p hp.1,hp.2⟩
   ⟨fun p hp=>h'.1 p (hk p hp),wpAnyP.less fuel _ _ _ a' w' hk h'.2⟩) (h.2 j hj)⟩
theorem wpAnyP.first {i:Nat} {oi:Oper} {v:Value} {Si:World→Prop} (hi:ops[i]? = some oi) (hsel:∀ (j:Nat) (o:Oper) cs b,ops[j]? = some o→o.op≠.select cs b)
  (hQ:∀ c a w,Q (.panic c) (a.put oi.dst v) w→Q (.panic c) a w) (hdep:∀ j,dep j i=true→Dep md ops j i) :
  ∀ (fuel:Nat) (listed:Array Bool) (S:Pend) (a:Act) (w:World),
   Closed md ops listed →
   (∀ j oj,ops[j]? = some oj→j≠i→listed.getD j true=false→(∀ e∈oj.after,Region.binds md e=true→e.on≠i)→oi.apart ops oj=true) →
   i∈Region.ready md ops listed→YieldsIf P ops Si oi v a→Si w→(∀ p∈S,p.2 w) →
   wpAnyP P md ops Q dep fuel (listed.setIfInBounds i true) ((i,Si)::S) (a.put oi.dst v) w→wpAnyP P md ops Q dep (fuel+1) listed S a w:=by
 intro fuel
 induction fuel with
 | zero =>
  intro listed S a w _ _ hr hy hS hP H
  refine ⟨fun h=>(by rw [h] at hr;cases hr),fun j hj=>?_⟩
  by_cases hji:j=i
  ·subst hji;exact hy.wpOp hi hS ⟨fun p hp=>hP p ((List.mem_filter.1 hp).1),H⟩
  ·have:=ready_mono hj hji
   rw [H.1] at this
   cases this
 | succ fuel ih =>
  intro listed S a w hcl hfree hr hy hS hP H
  refine ⟨fun h=>(by rw [h] at hr;cases hr),fun j hj=>?_⟩
  by_cases hji:j=i
  ·subst hji
   exact hy.wpOp hi hS ⟨fun p hp=>hP p ((List.mem_filter.1 hp).1),wpAnyP.less _ _ _ _ _ _ (fun p hp=>List.mem_cons_of_mem _ ((List.mem_filter.1 hp).1)) H⟩
  ·have h1:=H.2 j (ready_mono hj hji)
   obtain ⟨hjun,oj,hoj,hall⟩:=mem_ready.1 hj
   have hiun:listed.getD i false=true→False:=fun h1=>by
    have h0:=(mem_ready.1 hr).1
    rcases Nat.lt_or_ge i listed.size with h' | h'
    ·simp [h'] at h0 h1;rw [h0] at h1;cases h1
    ·simp [Array.getElem?_eq_none h'] at h1
   have hnot:∀ e∈oj.after,Region.binds md e=true→e.on≠i:=fun e he hb heq=>hiun (heq▸hall e he hb)
   have hnd:dep j i=false:=by
    cases hd:dep j i with
    | false=>rfl
    | true=>exact (hiun (hcl.dep (hdep j hd) fun o ho e he hb=>by rw [hoj] at ho;cases ho;exact hall e he hb)).elim
   have h2:=wpOp_putIf hoj (hfree j oj hoj hji hjun hnot) (fun cs b=>hsel i oi cs b hi) (fun cs b=>hsel j oj cs b hoj) hQ hy h1
   have hfree' : ∀ k ok,ops[k]? = some ok→k≠i→(listed.setIfInBounds j true).getD k true=false →
     (∀ e∈ok.after,Region.binds md e=true→e.on≠i)→oi.apart ops ok=true:=fun k ok hk hki hun hno=>by
    refine hfree k ok hk hki ?_ hno
    by_cases hjk:j=k
    ·subst hjk;exact hjun
    ·rw [getD_set_ne true hjk] at hun;exact hun
   have hkp:kp dep j ((i,Si)::S)=(i,Si)::kp dep j S:=by simp [kp,hnd]
   rw [hkp] at h2
   refine wpOp_mono (fun a' w' h3=>⟨fun p hp=>h3.2.1 p (List.mem_cons_of_mem _ hp),ih (listed.setIfInBounds j true) _ a' w' (hcl.set hj) hfree' (ready_mono hr (Ne.symm hji)) h3.1 (h3.2.1 _ List.mem_cons_self) (fun p hp=>h3.2.1 p (List.mem_cons_of_mem _ hp)) ?_⟩) h2
   rw [Array.setIfInBounds_comm _ _ hji]
   exact h3.2.2
end any
def cd (n:Nat):List Nat→Array Bool
 | []=>Array.replicate n false
 | i::r=>(cd n r).setIfInBounds i true
def depB (ops:Array Oper):Nat→Nat→Nat→Bool
 | 0,_,_=>false
 | fuel+1,j,i=>match ops[j]? with
  | none=>false
  | some o=>o.after.toList.any fun e=>Region.binds .any e && (e.on == i || depB ops fuel e.on i)
theorem pL {ops:Array Oper}:∀ (fuel j i:Nat),depB ops fuel j i=true→Dep .any ops j i
 | 0,_,_,h=>by simp [depB] at h
 | fuel+1,j,i,h=>by
  unfold depB at h
  cases ho:ops[j]? with
  | none=>rw [ho] at h;simp at h
  | some o =>
   rw [ho] at h
   simp only [List.any_eq_true] at h
   obtain ⟨e,he,h⟩:=h
   have he' : e∈o.after:=by simpa using he
   simp only [Bool.and_eq_true,Bool.or_eq_true,beq_iff_eq] at h
   rcases h with ⟨hb,h|h⟩
   ·exact .one ho he' hb h
   ·exact .more ho he' hb (pL fuel _ i h)
inductive Stp where
 | ev (i:Nat)
 | ef (i:Nat)
def gL (ops:Array Oper) (done:List Nat):List Stp→Bool
 | []=>(Region.ready .any ops (cd ops.size done)).isEmpty
 | .ev i::r=>(Region.ready .any ops (cd ops.size done)).contains i && Region.free .any ops (cd ops.size done) i && gL ops (i::done) r
 | .ef i::r=>(Region.ready .any ops (cd ops.size done) == [i]) && gL ops (i::done) r
structure PE where
 idx:Nat
 op:Op
 ty:TypeId
 env:Env
 v:Value
def jR (P:Program) (pend:List PE) (S:Pend):Prop:=∀ p∈S,(∀ w,p.2 w)∨∃ pe∈pend,pe.idx=p.1∧∃ ρ o,Agr pe.env ρ∧o.op=pe.op∧o.type=pe.ty∧∀ w,(execOp ρ o).run P w=.ok (.value pe.v) w→p.2 w
def dpB (ops:Array Oper) (j i:Nat):Bool:=depB ops ops.size j i
class NoP (K:Post):Prop where
 no:∀ c env L,¬K (.panic c) env L
 out:∀ env L,¬K .outgrown env L
instance {n:Env→List HP→Prop} {K:Post} [h:NoP K]:NoP (Post.seq n K):=⟨fun c env L=>h.no c env L,fun env L=>h.out env L⟩
instance {id:Nat} {K:Post} [h:NoP K]:NoP (Post.inBlock id K):=⟨fun c env L=>h.no c env L,fun env L=>h.out env L⟩
instance {P:Program} {N:Nat} {rs:List ResultVar} {post:Value→List HP→Prop}:NoP (Ends P N rs post):=⟨(by
 rintro c env L ⟨h,_⟩
 rcases h with h|h
 ·cases h
 ·cases h),(by
 rintro env L ⟨h,_⟩
 rcases h with h|h
 ·cases h
 ·cases h)⟩
def GP (P:Program) (N:Nat) (ops:Array Oper) (done:List Nat) (plan:List Stp) (pend:List PE) (env:Env) (L:List HP) (K:Post):Prop :=
 NoP K→gL ops done plan=true→Region.noSelect ops=true→Closed .any ops (cd ops.size done) →
 ∀ θ Y a w S,At N env L θ Y a w→jR P pend S→(∀ p∈S,p.2 w) →
  wpAnyP P .any ops (QK θ Y N K) (dpB ops) plan.length (cd ops.size done) S a w
def noDefer (ops:Array Oper):Bool:=ops.all fun o=>match o.op with
 | .defer _=>false
 | _=>true
theorem uZ {ops:Array Oper} (h:noDefer ops=true) {i:Nat} {o:Oper} (hi:ops[i]? = some o):∀ c,o.op≠.defer c:=by
 intro c hc
 have h1:=Array.all_eq_true.1 h i (Array.getElem?_eq_some_iff.1 hi).1
 rw [(Array.getElem?_eq_some_iff.1 hi).2] at h1
 simp [hc] at h1
theorem Bz {P:Program} {r:Option Nat} {ops:Array Oper} {Q:Exit→Act→World→Prop} (hd:noDefer ops=true) (hq:¬LetsOut Q) {i:Nat} {K K' : Act→World→Prop} {a:Act} {w:World} (hk:∀ a w,K a w→K' a w) (h:wpOp P ops Q i K a w):wpOpIn (FW r) 0 P ops Q i K' a w:=by
 have h:=wpOp_mono hk h
 unfold wpOp at h
 unfold wpOpIn
 cases hi:ops[i]? with
 | none=>simp only [hi] at h ⊢;exact h
 | some o =>
  simp only [hi] at h ⊢
  split
  ·rename_i hw
   simp only [hw,if_true] at h
   rcases h with h|h
   ·exact lP (uZ hd hi) h
   ·exact absurd h.2 hq
  ·rename_i hw
   simp only [hw] at h
   exact ⟨fun _ _=>trivial,h⟩
theorem lQ {P:Program} {r:Option Nat} {md:Region.Mode} {ops:Array Oper} {Q:Exit→Act→World→Prop} (hd:noDefer ops=true) (hq:¬LetsOut Q):∀ (fuel:Nat) (listed:Array Bool) (a:Act) (w:World),wpAny P md ops Q fuel listed a w→wpAnyIn (FW r) 0 P md ops Q fuel listed a w
 | 0,_,_,_,h=>h
 | fuel+1,_,_,_,h=>⟨h.1,fun i hi=>Bz hd hq (fun a w=>lQ hd hq fuel _ a w) (h.2 i hi)⟩
def Stp.idx:Stp→Nat
 | .ev i=>i
 | .ef i=>i
def GPW (P:Program) (N:Nat) (ops:Array Oper) (done:List Nat) (s:Stp) (plan:List Stp) (dst:Option Tmp) (op:Op) (ty:TypeId) (pend:List PE) (env:Env) (L:List HP) (K:Post):Prop :=
 ∀ pos af g,ops[s.idx]? = some ⟨dst,op,ty,pos,af,g⟩→(∀ a,EnvOk N env a→Region.wanted ⟨dst,op,ty,pos,af,g⟩ (yielded ops a.tmps)=true)→GP P N ops done (s::plan) pend env L K
def GPK (P:Program) (N:Nat) (ops:Array Oper) (done:List Nat) (i:Nat) (plan:List Stp) (todo acc:List PE) (env:Env) (L:List HP) (K:Post):Prop :=
 ∃ kept:List PE,(∀ pe∈todo,dpB ops i pe.idx=true∨(pe∈kept∧Ev P L pe.env pe.op pe.ty pe.v))∧(∀ pe∈acc,pe∈kept)∧GP P N ops (i::done) plan kept env L K
section gp
variable {P:Program} {N:Nat} {ops:Array Oper} {done:List Nat} {plan:List Stp} {pend:List PE} {env:Env} {L:List HP} {K:Post}
theorem G.a6 {id:Nat} {l:List Oper} (plan:List Stp) [hK:NoP K] (hm:P.follows .mixedOrders=true) (hp:(gL l.toArray [] plan && (plan.length == l.toArray.size) && Region.noSelect l.toArray && noDefer l.toArray)=true) (h:GP P N l.toArray [] plan [] env L K):G P N (.region id l.toArray true) env L K:=by
 intro r θ Y a w hr i
 simp only [Bool.and_eq_true,beq_iff_eq] at hp
 obtain ⟨⟨⟨h1,h2⟩,h3⟩,h4⟩:=hp
 refine wpIn_region_any hm (lQ h4 (by rintro ⟨a',w',env,L,_,h⟩;exact hK.out env L h) _ _ _ _ (wpAnyP.a6 (dep:=dpB l.toArray) _ _ [] _ _ ?_))
 obtain ⟨M,ea,hmk,s⟩:=i
 have:=h hK h1 h3 (Closed.start _) θ Y a { w with drawn:=w.drawn+1 } [] ⟨M,ea,hmk,s.drew⟩ (by intro p hp;cases hp) (by simp)
 rw [h2] at this
 exact this
theorem GP.nil (h:K .normal env L):GP P N ops done [] pend env L K:=by
 intro _ hp _ _ θ Y a w S i _ _
 simp only [gL,List.isEmpty_iff] at hp
 exact ⟨hp,env,L,i,h⟩
theorem vV {θ:Th} {R:List HP} (hK:NoP K) (c:List PanicEntry) (a:Act) (w:World):¬QK θ R N K (.panic c) a w:=fun ⟨env,L,_,h⟩=>hK.no c env L h
theorem GP.c8 {i d:Nat} {op:Op} {ty:TypeId} {pos:String} {af:Array Edge} {g:Option (Nat×Bool)} {v:Value} {pend' : List PE} (hi:ops[i]? = some ⟨some d,op,ty,pos,af,g⟩) (hd:d<N)
  (hy:∀ θ R a w,EnvOk N env a→Sat θ (L++R) w→∃ Si,YieldsIf P ops Si ⟨some d,op,ty,pos,af,g⟩ v a∧Si w∧∀ S,jR P pend S→jR P pend' ((i,Si)::S))
  (h:GP P N ops (i::done) plan pend' ((d,v)::env) L K):GP P N ops done (.ev i::plan) pend env L K:=by
 intro hK hp hs hcl θ Y a w S i0 hpo hpw
 simp only [gL,Bool.and_eq_true,List.contains_iff_mem] at hp
 obtain ⟨⟨h1,h2⟩,h3⟩:=hp
 obtain ⟨M,ea,hmk,s⟩:=i0
 obtain ⟨Si,hy1,hy2,hy3⟩:=hy θ _ a w ea s
 have hall:∀ p∈(i,Si)::S,p.2 w:=fun p hp=>by
  rcases List.mem_cons.1 hp with rfl|hp
  ·exact hy2
  ·exact hpw p hp
 refine wpAnyP.first hi (Region.noSelect_spec hs) (fun c a w q=>(vV hK c _ w q).elim) (fun j hj=>pL _ j i hj) _ _ S a w hcl (Region.free_spec hi h2) h1 hy1 hy2 hpw ?_
 exact h hK h3 hs (hcl.set h1) θ Y (a.put (some d) v) w _ ⟨M,ea.put hd v,by rw [defers_put];exact hmk,s⟩ (hy3 S hpo) hall
theorem GPW.evP {i d:Nat} {op:Op} {ty:TypeId} {v:Value} (he:Ev P [] env op ty v) (hd:d<N) (h:GP P N ops (i::done) plan pend ((d,v)::env) L K):GPW P N ops done (.ev i) plan (some d) op ty pend env L K:=by
 intro pos af g hi hw
 refine GP.c8 hi hd (fun θ R a w ea s=>⟨fun _=>True,.inl ⟨hw a ea,?_⟩,trivial,fun S hS p hp=>?_⟩) h
 ·intro w' _
  exact he ⟨w'.tape,w'.os,w'.output,0⟩ [] a.eval w' _ ea.agr ⟨⟨rfl,rfl,rfl,Nat.zero_le _⟩,Hp.emp,Hp.emp,Hp.a7 _,Hp.a6 _,Hp.a6 _,trivial⟩ rfl rfl
 ·rcases List.mem_cons.1 hp with rfl|hp
  ·exact .inl fun _=>trivial
  ·exact hS p hp
theorem GPW.evL {i d:Nat} {op:Op} {ty:TypeId} {v:Value} (he:Ev P L env op ty v) (hd:d<N) (h:GP P N ops (i::done) plan (⟨i,op,ty,env,v⟩::pend) ((d,v)::env) L K):GPW P N ops done (.ev i) plan (some d) op ty pend env L K:=by
 intro pos af g hi hw
 refine GP.c8 hi hd (fun θ R a w ea s=>⟨fun w'=>(execOp a.eval ⟨some d,op,ty,pos,af,g⟩).run P w' = .ok (.value v) w',.inl ⟨hw a ea,fun w' h=>h⟩,he θ R a.eval w _ ea.agr s rfl rfl,fun S hS p hp=>?_⟩) h
 rcases List.mem_cons.1 hp with rfl|hp
 ·exact .inr ⟨_,List.mem_cons_self,rfl,a.eval,_,ea.agr,rfl,rfl,fun w h=>h⟩
 ·rcases hS p hp with h|⟨pe,h1,h2⟩
  ·exact .inl h
  ·exact .inr ⟨pe,List.mem_cons_of_mem _ h1,h2⟩
theorem GP.c9 {i d:Nat} {op:Op} {ty:TypeId} {pos:String} {af:Array Edge} {g:Option (Nat×Bool)} (hi:ops[i]? = some ⟨some d,op,ty,pos,af,g⟩) (hd:d<N) (hw:∀ a,EnvOk N env a→Region.wanted ⟨some d,op,ty,pos,af,g⟩ (yielded ops a.tmps)=false)
  (h:GP P N ops (i::done) plan pend ((d,undef)::env) L K):GP P N ops done (.ev i::plan) pend env L K:=by
 refine GP.c8 hi hd (fun θ R a w ea s=>⟨fun _=>True,.inr ⟨hw a ea,rfl⟩,trivial,fun S hS p hp=>?_⟩) h
 rcases List.mem_cons.1 hp with rfl|hp
 ·exact .inl fun _=>trivial
 ·exact hS p hp
theorem GPK.nil {i:Nat} {acc:List PE} (h:GP P N ops (i::done) plan acc env L K):GPK P N ops done i plan [] acc env L K:=⟨acc,(by intro pe h;cases h),fun _ h=>h,h⟩
theorem GPK.drop {i:Nat} {pe:PE} {ts acc:List PE} (hd:dpB ops i pe.idx=true) (h:GPK P N ops done i plan ts acc env L K):GPK P N ops done i plan (pe::ts) acc env L K:=by
 obtain ⟨kept,h1,h2,h3⟩:=h
 refine ⟨kept,fun p hp=>?_,h2,h3⟩
 rcases List.mem_cons.1 hp with rfl|hp
 ·exact .inl hd
 ·exact h1 p hp
theorem GPK.keep {i k:Nat} {op:Op} {ty:TypeId} {env' : Env} {v:Value} {ts acc:List PE} (hd:Ev P L env' op ty v) (h:GPK P N ops done i plan ts (⟨k,op,ty,env',v⟩::acc) env L K):GPK P N ops done i plan (⟨k,op,ty,env',v⟩::ts) acc env L K:=by
 obtain ⟨kept,h1,h2,h3⟩:=h
 refine ⟨kept,fun p hp=>?_,fun p hp=>h2 p (List.mem_cons_of_mem _ hp),h3⟩
 rcases List.mem_cons.1 hp with rfl|hp
 ·exact .inr ⟨h2 _ List.mem_cons_self,hd⟩
 ·exact h1 p hp
theorem GPK.step {i:Nat} (h:GPK P N ops done i plan pend [] env L K) {θ:Th} {R:List HP} {a:Act} {w:World} {S:Pend} (hK:NoP K) (h3:gL ops (i::done) plan=true) (hs:Region.noSelect ops=true) (hcl:Closed .any ops (cd ops.size (i::done))) (i0:At N env L θ R a w) (hpo:jR P pend S) :
  (∀ p∈kp (dpB ops) i S,p.2 w)∧wpAnyP P .any ops (QK θ R N K) (dpB ops) plan.length (cd ops.size (i::done)) (kp (dpB ops) i S) a w:=by
 obtain ⟨kept,k1,_,k3⟩:=h
 obtain ⟨M,ea,hmk,s⟩:=i0
 have hkk:∀ p∈kp (dpB ops) i S,p.2 w∧((∀ w,p.2 w)∨∃ pe∈kept,pe.idx=p.1∧∃ ρ o,Agr pe.env ρ∧o.op=pe.op∧o.type=pe.ty∧∀ w,(execOp ρ o).run P w=.ok (.value pe.v) w→p.2 w):=by
  intro p hp
  obtain ⟨hp1,hp2⟩:=List.mem_filter.1 hp
  rcases hpo p hp1 with h|⟨pe,h1,h2,ρ,o,h4,h5,h6,h7⟩
  ·exact ⟨h w,.inl h⟩
  ·rcases k1 pe h1 with hd|⟨hk,hev⟩
   ·rw [h2] at hd;rw [hd] at hp2;simp at hp2
   ·exact ⟨h7 w (hev θ _ ρ w o h4 s h5 h6),.inr ⟨pe,hk,h2,ρ,o,h4,h5,h6,h7⟩⟩
 exact ⟨fun p hp=>(hkk p hp).1,k3 hK h3 hs hcl θ R a w _ ⟨M,ea,hmk,s⟩ (fun p hp=>(hkk p hp).2) (fun p hp=>(hkk p hp).1)⟩
theorem GPW.ef {i d:Nat} {op:Op} {ty:TypeId} {post:Value→List HP→Prop} (he:Ef P L env op ty post) (hd:d<N) (h:∀ v L',post v L'→GPK P N ops done i plan pend [] ((d,v)::env) L' K):GPW P N ops done (.ef i) plan (some d) op ty pend env L K:=by
 intro pos af g hi hw hK hp hs hcl θ Y a w S i0 hpo hpw
 obtain ⟨M,ea,hmk,s⟩:=i0
 simp only [gL,Bool.and_eq_true,beq_iff_eq] at hp
 obtain ⟨h1,h3⟩:=hp
 have hir:i∈Region.ready .any ops (cd ops.size done):=by rw [h1];exact List.mem_singleton.2 rfl
 refine ⟨fun h0=>(by rw [h0] at h1;cases h1),fun j hj=>?_⟩
 rw [h1] at hj
 have hji:j=i:=List.mem_singleton.1 hj
 subst hji
 have hi' : ops[j]? = some ⟨some d,op,ty,pos,af,g⟩:=hi
 unfold wpOp
 simp only [hi',hw a ea,if_true]
 refine .inl (he θ _ a w _ _ _ ea.agr s rfl rfl fun v L' w' hpost s'=>?_)
 exact (h v L' hpost).step hK h3 hs (hcl.set hir) ⟨M,ea.put hd v,by rw [defers_put];exact hmk,s'⟩ hpo
theorem GPW.efu {i:Nat} {op:Op} {ty:TypeId} {post:Value→List HP→Prop} (he:Ef P L env op ty post) (h:∀ v L',post v L'→GPK P N ops done i plan pend [] env L' K):GPW P N ops done (.ef i) plan none op ty pend env L K:=by
 intro pos af g hi hw hK hp hs hcl θ Y a w S i0 hpo hpw
 obtain ⟨M,ea,hmk,s⟩:=i0
 simp only [gL,Bool.and_eq_true,beq_iff_eq] at hp
 obtain ⟨h1,h3⟩:=hp
 have hir:i∈Region.ready .any ops (cd ops.size done):=by rw [h1];exact List.mem_singleton.2 rfl
 refine ⟨fun h0=>(by rw [h0] at h1;cases h1),fun j hj=>?_⟩
 rw [h1] at hj
 have hji:j=i:=List.mem_singleton.1 hj
 subst hji
 have hi' : ops[j]? = some ⟨none,op,ty,pos,af,g⟩:=hi
 unfold wpOp
 simp only [hi',hw a ea,if_true]
 refine .inl (he θ _ a w _ _ _ ea.agr s rfl rfl fun v L' w' hpost s'=>?_)
 exact (h v L' hpost).step hK h3 hs (hcl.set hir) ⟨M,ea,hmk,s'⟩ hpo
theorem GP.a6 {i d:Nat} {op:Op} {ty:TypeId} {pos:String} {af:Array Edge} {g:Option (Nat×Bool)} (hi:ops[i]? = some ⟨some d,op,ty,pos,af,g⟩) (hd:d<N) (hw:∀ a,EnvOk N env a→Region.wanted ⟨some d,op,ty,pos,af,g⟩ (yielded ops a.tmps)=false)
  (h:GP P N ops (i::done) plan pend ((d,undef)::env) L K):GP P N ops done (.ef i::plan) pend env L K:=by
 intro hK hp hs hcl θ Y a w S i0 hpo hpw
 simp only [gL,Bool.and_eq_true,beq_iff_eq] at hp
 obtain ⟨h1,h3⟩:=hp
 have ea:=i0.eok
 have hir:i∈Region.ready .any ops (cd ops.size done):=by rw [h1];exact List.mem_singleton.2 rfl
 refine ⟨fun h0=>(by rw [h0] at h1;cases h1),fun j hj=>?_⟩
 rw [h1] at hj
 have hji:j=i:=List.mem_singleton.1 hj
 subst hji
 unfold wpOp
 simp only [hi,hw a ea,Bool.false_eq_true,if_false]
 exact ⟨fun p hp=>hpw p (List.mem_filter.1 hp).1,h hK h3 hs (hcl.set hir) θ Y _ w _ (i0.put hd undef) (fun p hp=>hpo p (List.mem_filter.1 hp).1) (fun p hp=>hpw p (List.mem_filter.1 hp).1)⟩
theorem GP.go {s:Stp} {dst:Option Tmp} {op:Op} {ty:TypeId} {pos:String} {af:Array Edge} (hi:ops[s.idx]? = some ⟨dst,op,ty,pos,af,none⟩) (h:GPW P N ops done s plan dst op ty pend env L K):GP P N ops done (s::plan) pend env L K :=
 h pos af none hi fun _ _=>rfl
theorem lO {j t:Nat} {v:Value} (hj:(ops[j]?).bind (·.dst)=some t) (ht:env.lookup t=some v) {a:Act} (ea:EnvOk N env a):yielded ops a.tmps j=match v with | .bool b=>some b|_=>none:=by
 unfold yielded
 rw [hj]
 simp only [Option.bind_some,ea.at_ t _ ht]
 cases v<;>rfl
theorem GP.env_cons {t:Nat} {v:Value} (ht:env.lookup t=some v) (h:GP P N ops done plan pend ((t,v)::env) L K):GP P N ops done plan pend env L K :=
 fun hK hp hs hcl θ R a w S i hpo hpw=>h hK hp hs hcl θ R a w S (i.less (EnvSub.cons ht (EnvSub.refl _)) (Ent.refl _)) hpo hpw
theorem GP.guard {s:Stp} {d:Nat} {op:Op} {ty:TypeId} {pos:String} {af:Array Edge} {j t:Nat} {b c:Bool} (hi:ops[s.idx]? = some ⟨some d,op,ty,pos,af,some (j,b)⟩) (hj:(ops[j]?).bind (·.dst)=some t) (ht:env.lookup t=some (.bool c)) (hd:d<N)
  (hy:c=b→GPW P N ops done s plan (some d) op ty pend env L K) (hn:c≠b→GP P N ops (s.idx::done) plan pend ((d,undef)::env) L K):GP P N ops done (s::plan) pend env L K:=by
 by_cases hcb:c=b
 ·subst hcb
  exact hy rfl pos af _ hi fun a ea=>by simp [Region.wanted,lO hj ht ea]
 ·have hw:∀ a,EnvOk N env a→Region.wanted ⟨some d,op,ty,pos,af,some (j,b)⟩ (yielded ops a.tmps)=false:=fun a ea=>by
   simp [Region.wanted,lO hj ht ea,hcb]
  cases s with
  | ev i=>exact GP.c9 hi hd hw (hn hcb)
  | ef i=>exact GP.a6 hi hd hw (hn hcb)
theorem GP.a7 {s:Stp} {d:Nat} {op:Op} {ty:TypeId} {pos:String} {af:Array Edge} {j t:Nat} {b:Bool} (hi:ops[s.idx]? = some ⟨some d,op,ty,pos,af,some (j,b)⟩) (hj:(ops[j]?).bind (·.dst)=some t) (ht:env.lookup t=some undef) (hd:d<N)
  (hn:GP P N ops (s.idx::done) plan pend ((d,undef)::env) L K):GP P N ops done (s::plan) pend env L K:=by
 have hw:∀ a,EnvOk N env a→Region.wanted ⟨some d,op,ty,pos,af,some (j,b)⟩ (yielded ops a.tmps)=false:=fun a ea=>by
  simp [Region.wanted,lO hj ht ea,undef]
 cases s with
 | ev i=>exact GP.c9 hi hd hw hn
 | ef i=>exact GP.a6 hi hd hw hn
theorem GP.a8 {s:Stp} {d:Nat} {op:Op} {ty:TypeId} {pos:String} {af:Array Edge} {j t:Nat} {c:Bool} (hi:ops[s.idx]? = some ⟨some d,op,ty,pos,af,some (j,true)⟩) (hj:(ops[j]?).bind (·.dst)=some t) (ht:env.lookup t=some (.bool c)) (hd:d<N)
  (h:GB c (GPW P N ops done s plan (some d) op ty pend env L K) (GP P N ops done (s::plan) pend ((t,.bool true)::env) L K) (GP P N ops (s.idx::done) plan pend ((d,undef)::env) L K) (GP P N ops done (s::plan) pend ((t,.bool false)::env) L K)):GP P N ops done (s::plan) pend env L K:=by
 cases c with
 | true =>
  rcases h.1 rfl with h|h
  ·exact GP.guard hi hj ht hd (fun _=>h) (fun h=>absurd rfl h)
  ·exact h.env_cons ht
 | false =>
  rcases h.2 rfl with h|h
  ·exact GP.guard hi hj ht hd (fun h=>by cases h) (fun _=>h)
  ·exact h.env_cons ht
theorem GP.c6 {s:Stp} {d:Nat} {op:Op} {ty:TypeId} {pos:String} {af:Array Edge} {j t:Nat} {c:Bool} (hi:ops[s.idx]? = some ⟨some d,op,ty,pos,af,some (j,false)⟩) (hj:(ops[j]?).bind (·.dst)=some t) (ht:env.lookup t=some (.bool c)) (hd:d<N)
  (h:GB c (GP P N ops (s.idx::done) plan pend ((d,undef)::env) L K) (GP P N ops done (s::plan) pend ((t,.bool true)::env) L K) (GPW P N ops done s plan (some d) op ty pend env L K) (GP P N ops done (s::plan) pend ((t,.bool false)::env) L K)):GP P N ops done (s::plan) pend env L K:=by
 cases c with
 | true =>
  rcases h.1 rfl with h|h
  ·exact GP.guard hi hj ht hd (fun h=>by cases h) (fun _=>h)
  ·exact h.env_cons ht
 | false =>
  rcases h.2 rfl with h|h
  ·exact GP.guard hi hj ht hd (fun _=>h) (fun h=>absurd rfl h)
  ·exact h.env_cons ht
theorem GP.conseq {env' : Env} (he:EnvSub env env') (h:GP P N ops done plan pend env' L K):GP P N ops done plan pend env L K :=
 fun hK hp hs hcl θ R a w S i hpo hpw=>h hK hp hs hcl θ R a w S (i.less he (Ent.refl _)) hpo hpw
end gp
end Go.V
namespace Go.V
section ops
variable {P:Program} {N:Nat} {env:Env} {L:List HP} {K:Post} {ty:TypeId}
def oc (pl:List (Nat×Nat)):List (Nat×Value)→List Value→Option (List Value)
 | [],z=>some z
 | (i,v)::r,z=>match pl[i]?,v.oneCell' with
  | some (off,1),true=>mR z off v fun z'=>oc pl r z'
  | _,_=>none
theorem qZ (pl:List (Nat×Nat)):∀ (vs:List (Nat×Value)) (z cs:List Value),oc pl vs z=some cs→Instr.fill (fun i=>pl.toArray[i]?) z.toArray vs=some cs.toArray
 | [],z,cs,h=>by simp [oc] at h;simp [Instr.fill,h]
 | (i,v)::r,z,cs,h=>by
  simp only [oc] at h
  split at h
  ·rename_i off h1 h2
   obtain ⟨h3,h4⟩:=pM _ _ _ _ _ h
   have ih:=qZ pl r _ _ h4
   have hc1:v.cells=#[v]:=by cases v<;>first|rfl|cases h2
   simp only [Instr.fill,List.getElem?_toArray,h1,hc1]
   have:¬(off+1>z.length):=by omega
   simp [this] at ih ⊢
   exact ih
  ·cases h
theorem lk {P:Program} {w:World}:∀ (fs:List Field) (pl:List (Nat×Nat)),fs.map (fun fd=>(fd.offset,(P.info? fd.type).map (·.size)))=pl.map (fun p=>(p.1,some p.2)) →
  (fs.mapM fun (f:Field)=>do pure (f.offset,← sizeOf f.type)).run P w=.ok pl w
 | [],pl,h=>by
  have:pl=[]:=by simpa using h.symm
  simp [this]
 | f::fs,[],h=>by simp at h
 | f::fs,p::pl,h=>by
  simp only [List.map_cons,List.cons.injEq,Prod.mk.injEq] at h
  obtain ⟨⟨h1,h2⟩,h3⟩:=h
  cases hi:P.info? f.type with
  | none=>rw [hi] at h2;cases h2
  | some i =>
   rw [hi] at h2
   simp at h2
   have ih:=lk (P:=P) (w:=w) fs pl h3
   simp at ih
   simp [List.mapM_cons,sizeOf,typeInfo,hi,h2]
   simp [sizeOf,typeInfo] at ih
   simp [ih,h1]
theorem Ev.build {t:TypeId} {ps:Array (Nat×Operand)} {vs:List (Nat×Value)} {pl:List (Nat×Nat)} {z cs:List Value} [hs:TyStruct P t pl] [hz:ZeroT P t z] (hv:iK env ps.toList=some vs) (hc:oc pl vs z=some cs):Ev P L env (.build t ps) ty (.agg cs.toArray) :=
 Ev.mk (fun θ R ρ w ea s _ _ _ _=>by
  obtain ⟨z0,h1,h2⟩:=hz.run w
  have he:=hs.eq
  cases hu:P.underlying t with
  | none=>rw [hu] at he;cases he
  | some dsc =>
   rw [hu] at he
   cases dsc<;>simp [pw] at he
   rename_i fs
   have hm:=lk (P:=P) (w:=w) fs.toList pl (by simpa using he)
   have hargs:ps.map (fun p=>(p.1,ρ p.2))=vs.toArray:=by
    apply Array.ext'
    simpa using ea.pairs ps.toList vs hv
   have hm' : (fs.mapM fun (f:Field)=>do pure (f.offset,← sizeOf f.type)).run P w=.ok pl.toArray w:=by
    have e:fs=fs.toList.toArray:=by simp
    rw [e,List.mapM_toArray]
    simp only [Sem.run_map,hm,Result.andThen_ok]
   have hf:=qZ pl vs z cs hc
   simp only [execOp,hargs,Instr.build,Sem.run_bind,h1,Result.andThen_ok,run_underlying hu,hm',h2]
   simp only [hf]
   simp)
def appK:List Value→List Value→(List Value→Option (List Value))→Option (List Value)
 | [],r,k=>k r
 | c::l,r,k=>appK l r fun x=>k (c::x)
def litK (sz:Nat):List (Nat×Value)→Nat→(List Value→Option (List Value))→Option (List Value)
 | [],_,k=>k []
 | (j,.agg c)::r,i,k=>match Nat.beq j i,Nat.beq c.size sz with
  | true,true=>litK sz r (i+1) fun x=>appK c.toList x k
  | _,_=>none
 | (j,v)::r,i,k=>match Nat.beq j i,Nat.beq 1 sz with
  | true,true=>litK sz r (i+1) fun x=>k (v::x)
  | _,_=>none
theorem yV:∀ (a r:List Value) (k:List Value→Option (List Value)),appK a r k=k (a++r)
 | [],_,_=>rfl
 | c::l,r,k=>by simp [appK,yV l r]
theorem yI (sz:Nat):∀ (vs:List (Nat×Value)) (i:Nat) (k:List Value→Option (List Value)) (r:List Value),litK sz vs i k=some r →
  (∀ p∈vs,p.2.cells.size=sz)∧vs.map (·.1)=List.range' i vs.length∧k (vs.flatMap fun p=>p.2.cells.toList)=some r
 | [],_,k,r,h=>by simpa [litK] using h
 | (j,v)::vs,i,k,r,h=>by
  have key:∀ (h' : (match Nat.beq j i,Nat.beq v.cells.size sz with|true,true=>litK sz vs (i+1) (fun x=>k (v.cells.toList++x))|_,_=>none)=some r),
    (∀ p∈(j,v)::vs,p.2.cells.size=sz)∧((j,v)::vs).map (·.1)=List.range' i ((j,v)::vs).length∧k (((j,v)::vs).flatMap fun p=>p.2.cells.toList)=some r:=by
   intro h'
   split at h'
   ·rename_i h1 h2
    obtain ⟨a1,a2,a3⟩:=yI sz vs (i+1) _ r h'
    have e1:j=i:=Nat.eq_of_beq_eq_true h1
    have e2:v.cells.size=sz:=Nat.eq_of_beq_eq_true h2
    refine ⟨?_,?_,?_⟩
    ·intro p hp
     rcases List.mem_cons.1 hp with rfl|hp
     ·exact e2
     ·exact a1 p hp
    ·simp [e1,List.range'_succ,a2]
    ·simpa using a3
   ·cases h'
  apply key
  cases v<;>first|(simpa [litK,yV,Value.cells] using h)
theorem qV:∀ (l:List Value) (off k:Nat) (acc:List Value),off+k+l.length≤acc.length →
  ((l.zipIdx k).foldl (fun (cs:Array Value) (p:Value×Nat)=>cs.setIfInBounds (off+p.2) p.1) acc.toArray)=(acc.take (off+k)++l++acc.drop (off+k+l.length)).toArray
 | [],off,k,acc,h=>by simp
 | v::l,off,k,acc,h=>by
  simp only [List.zipIdx_cons,List.foldl_cons,List.setIfInBounds_toArray]
  rw [qV l off (k+1) _ (by simp at h ⊢;omega)]
  have hlt:off+k<acc.length:=by simp at h;omega
  congr 1
  have e1:(acc.set (off+k) v).take (off+(k+1))=acc.take (off+k)++[v]:=by
   rw [show off+(k+1)=off+k+1 by omega,List.take_succ_eq_append_getElem (by simpa using hlt),List.take_set_of_le (Nat.le_refl _)]
   simp
  have e2:(acc.set (off+k) v).drop (off+(k+1)+l.length)=acc.drop (off+k+(l.length+1)):=by
   rw [List.drop_set_of_lt (by omega)]
   congr 1
   omega
  rw [e1,e2]
  simp
theorem vz (sz:Nat):∀ (vs:List (Nat×Value)) (i:Nat) (acc:List Value),(∀ p∈vs,p.2.cells.size=sz)→vs.map (·.1)=List.range' i vs.length→acc.length=(i+vs.length)*sz →
  Instr.fill (fun i=>some (i*sz,sz)) acc.toArray vs=some (acc.take (i*sz)++vs.flatMap fun p=>p.2.cells.toList).toArray
 | [],i,acc,_,_,h=>by
  have:acc.take (i*sz)=acc:=List.take_of_length_le (by simp at h;omega)
  simp [Instr.fill,this]
 | (j,v)::vs,i,acc,h1,h2,h3=>by
  simp only [List.map_cons,List.length_cons,List.range'_succ,List.cons.injEq] at h2
  obtain ⟨rfl,h2⟩:=h2
  have hv:=h1 (j,v) List.mem_cons_self
  simp only at hv
  have hle:j*sz+sz≤acc.length:=by
   rw [h3]
   have h4:(j+1)*sz≤(j+((j,v)::vs).length)*sz:=Nat.mul_le_mul_right _ (by simp)
   have h5:=Nat.add_mul j 1 sz
   omega
  simp only [Instr.fill,hv,ne_eq,not_true_eq_false,List.size_toArray]
  have hno:¬(j*sz+sz>acc.length):=by omega
  simp only [decide_false,Bool.false_or,gt_iff_lt,decide_eq_true_eq]
  rw [if_neg (by omega)]
  have hfo:(v.cells.zipIdx.foldl (fun cs x=>match x with|(c,k)=>cs.setIfInBounds (j*sz+k) c) acc.toArray)=(acc.take (j*sz)++v.cells.toList++acc.drop (j*sz+sz)).toArray:=by
   have:=qV v.cells.toList (j*sz) 0 acc (by simp [hv];omega)
   rw [← Array.foldl_toList]
   simp only [Array.toList_zipIdx]
   simp only [Nat.add_zero,Array.length_toList,hv] at this
   exact this
  rw [hfo]
  rw [vz sz vs (j+1) _ (fun p hp=>h1 p (List.mem_cons_of_mem _ hp)) h2 (by
   simp only [List.length_append,List.length_take,Array.length_toList,hv,List.length_drop]
   simp only [List.length_cons] at h3
   have e:(j+1+vs.length)*sz=(j+(vs.length+1))*sz:=by congr 1;omega
   rw [e,← h3]
   omega)]
  have e1:(acc.take (j*sz)++v.cells.toList++acc.drop (j*sz+sz)).take ((j+1)*sz)=acc.take (j*sz)++v.cells.toList:=by
   rw [List.take_append_of_le_length (by simp [hv,Nat.add_mul];omega)]
   apply List.take_of_length_le
   simp [hv,Nat.add_mul]
   omega
  rw [e1]
  simp
theorem Ef.lit {t:TypeId} {len:Nat} {ps:Array (Nat×Operand)} {vs:List (Nat×Value)} {E sz bb:Nat} {z cs:List Value} [ht:TySl P t E sz bb z] (hv:iK env ps.toList=some vs) (hn:vs.length=len) (hl:len*sz≤16777216) (hc:litK sz vs 0 some=some cs)
  : Ef P L env (.buildSlice t len ps) ty (fun v L'=>∃ b,v=.slice (some ⟨b,0,none⟩) len len∧L' = obj b E cs::L):=by
 obtain ⟨a1,a2,a3⟩:=yI sz vs 0 some cs hc
 refine Ef.buildSlice hv hl ?_
 simp only [pE,Option.map_eq_some_iff]
 have e:(Array.range (len*sz)).map (z.toArray[· % z.length]!)=((List.range (len*sz)).map (z.toArray[· % z.length]!)).toArray:=by apply Array.ext';simp
 rw [e,vz sz vs 0 _ a1 (by rw [a2]) (by simp [hn])]
 simp only [Option.some.injEq] at a3
 exact ⟨_,rfl,by simp [a3]⟩
def advA (ad:Option Addr) (cap sz k:Nat):Option Addr:=if cap=k then ad else ad.map (·.add (k*sz))
theorem Ev.l9 {t:TypeId} {x hi:Operand} {ad:Option Addr} {n c E sz bb:Nat} {z:List Value} {k:IntKind} {j:Int} [ht:TySl P t E sz bb z] (hx:evE env x=some (.slice ad n c)) (hh:evE env hi=some (.int k j)) (h0:0≤j) (h1:j≤c):Ev P L env (.slice t x none (some hi) none) ty (.slice ad j.toNat c) :=
 Ev.mk (fun _ _ _ w ea _ _ _ _ _=>by
  obtain ⟨ii,z0,i1,i2,i3,i4,i5⟩:=ht.parts
  simp [execOp,ao ea hx,ao ea hh,Instr.sliceAt,Instr.slice,run_underlying ht.under,Instr.sliceBounds,Instr.sliceBound,asIntOf,h0,h1,sizeOf,typeInfo,i1]
  intro _
  cases ad<;>simp [Addr.add])
theorem Ev.k6 {t:TypeId} {x lo:Operand} {ad:Option Addr} {n c E sz bb:Nat} {z:List Value} {k:IntKind} {j:Int} [ht:TySl P t E sz bb z] (hx:evE env x=some (.slice ad n c)) (hl:evE env lo=some (.int k j)) (h0:0≤j) (h1:j≤n):Ev P L env (.slice t x (some lo) none none) ty (.slice (advA ad c sz j.toNat) (n - j.toNat) (c - j.toNat)) :=
 Ev.mk (fun _ _ _ w ea _ _ _ _ _=>by
  obtain ⟨ii,z0,i1,i2,i3,i4,i5⟩:=ht.parts
  simp [execOp,ao ea hx,ao ea hl,Instr.sliceAt,Instr.slice,run_underlying ht.under,Instr.sliceBounds,Instr.sliceBound,asIntOf,h0,h1,sizeOf,typeInfo,i1,i4,advA])
theorem Ev.o8 {t:TypeId} {x lo hi:Operand} {ad:Option Addr} {n c E sz bb:Nat} {z:List Value} {k k' : IntKind} {i j:Int} [ht:TySl P t E sz bb z] (hx:evE env x=some (.slice ad n c)) (hl:evE env lo=some (.int k i)) (hh:evE env hi=some (.int k' j)) (h0:0≤i) (h1:i≤j) (h2:j≤c):Ev P L env (.slice t x (some lo) (some hi) none) ty (.slice (advA ad c sz i.toNat) (j.toNat - i.toNat) (c - i.toNat)) :=
 Ev.mk (fun _ _ _ w ea _ _ _ _ _=>by
  obtain ⟨ii,z0,i1,i2,i3,i4,i5⟩:=ht.parts
  have hj:0≤j:=by omega
  have hij:i≤(j.toNat:Int):=by omega
  have hij' : i≤max j 0:=by omega
  simp [execOp,ao ea hx,ao ea hl,ao ea hh,Instr.sliceAt,Instr.slice,run_underlying ht.under,Instr.sliceBounds,Instr.sliceBound,asIntOf,h0,hj,h2,hij',sizeOf,typeInfo,i1,i4,advA])
theorem RdSl.drop {α:Type} {w:World} {enc:α→List Value} {sz:Nat} {ad:Option Addr} {xs:List α} (h:RdSl w enc sz ad xs) {cap:Nat} (hc:xs.length≤cap) (k:Nat):RdSl w enc sz (advA ad cap sz k) (xs.drop k):=by
 obtain ⟨h1,h2⟩:=h
 refine ⟨fun x hx=>h1 x (List.mem_of_mem_drop hx),?_⟩
 by_cases hk:xs.length≤k
 ·exact .inl (List.drop_eq_nil_of_le hk)
 ·rcases h2 with h2|⟨a,rfl,h3⟩
  ·subst h2;simp at hk
  ·refine .inr ⟨a.add (k*sz),?_,?_⟩
   ·have:¬cap=k:=by omega
    simp [advA,this]
   ·intro i v hv
    have e:(a.add (k*sz)).add i=a.add (k*sz+i):=by
     unfold Addr.add
     (repeat' split)<;>first|rfl|omega|(simp;omega)|(simp_all;done)
    rw [e]
    apply h3
    have hsplit:xs.flatMap enc=(xs.take k).flatMap enc++(xs.drop k).flatMap enc:=by rw [← List.flatMap_append,List.take_append_drop]
    have hlen:((xs.take k).flatMap enc).length=k*sz:=by
     rw [cA (fun x hx=>h1 x (List.mem_of_mem_take hx)),List.length_take,Nat.min_eq_left (by omega)]
    rw [hsplit,List.getElem?_append_right (by omega),hlen]
    rw [show k*sz+i - k*sz=i by omega]
    exact hv
theorem RdSl.take {α:Type} {w:World} {enc:α→List Value} {sz:Nat} {ad:Option Addr} {xs:List α} (h:RdSl w enc sz ad xs) (k:Nat):RdSl w enc sz ad (xs.take k):=by
 obtain ⟨h1,h2⟩:=h
 refine ⟨fun x hx=>h1 x (List.mem_of_mem_take hx),?_⟩
 rcases h2 with h2|⟨a,rfl,h3⟩
 ·exact .inl (by simp [h2])
 ·refine .inr ⟨a,rfl,fun i v hv=>h3 i v ?_⟩
  have hsplit:xs.flatMap enc=(xs.take k).flatMap enc++(xs.drop k).flatMap enc:=by rw [← List.flatMap_append,List.take_append_drop]
  rw [hsplit,List.getElem?_append_left (List.getElem?_eq_some_iff.1 hv).1]
  exact hv
theorem Rds.drop {α:Type} {enc:α→List Value} {sz:Nat} {ad:Option Addr} {xs:List α} (h:Rds L ad α enc sz xs) {cap:Nat} (hc:xs.length≤cap) (k:Nat):Rds L (advA ad cap sz k) α enc sz (xs.drop k):=⟨fun θ R w s=>(h.rd θ R w s).drop hc k⟩
theorem Rds.take {α:Type} {enc:α→List Value} {sz:Nat} {ad:Option Addr} {xs:List α} (h:Rds L ad α enc sz xs) (k:Nat):Rds L ad α enc sz (xs.take k):=⟨fun θ R w s=>(h.rd θ R w s).take k⟩
def omap {α:Type} (enc:α→Value) (b:Nat) (m:List (Int×α)):HP:=fun _ h =>
 ∃ es clock,h b=some (.map es clock)∧es.toList.map (fun e=>(e.key,e.val))=m.map (fun p=>(Value.int .i64 p.1,enc p.2))∧(m.map (·.1)).Nodup∧es.size≤clock∧(∀ e∈es,e.born<clock)∧(es.toList.map (·.born)).Nodup
class PickMap (L:List HP) (b:Nat) (α:outParam Type) (enc:outParam (α→Value)) (m:outParam (List (Int×α))) (R:outParam (List HP)):Prop where
 perm:L.Perm (omap enc b m::R)
def ains {α:Type} (m:List (Int×α)) (k:Int) (a:α):List (Int×α):=if m.any (fun p=>p.1 == k) then m.map (fun p=>if p.1=k then (k,a) else p) else m++[(k,a)]
def aera {α:Type} (m:List (Int×α)) (k:Int):List (Int×α):=m.filter (fun p=>!(p.1 == k))
theorem Sat.omap_parts {α:Type} {θ:Th} {enc:α→Value} {b:Nat} {m:List (Int×α)} {L:List HP} {w:World} (s:Sat θ (omap enc b m::L) w) :
  ∃ es clock,es.toList.map (fun e=>(e.key,e.val))=m.map (fun p=>(Value.int .i64 p.1,enc p.2))∧(m.map (·.1)).Nodup∧es.size≤clock∧(∀ e∈es,e.born<clock)∧(es.toList.map (·.born)).Nodup∧Sat θ (own b (.map es clock)::L) w:=by
 obtain ⟨ok,ι,h,a,b1,c,ι₀,h₁,h₂,d1,d2,d3,d4,⟨es,clock,e1,e2,e3,e4,e5,e6⟩,d6⟩:=s
 exact ⟨es,clock,e2,e3,e4,e5,e6,ok,ι,h,a,b1,c,ι₀,h₁,h₂,d1,d2,d3,d4,e1,d6⟩
theorem Sat.c6 {α:Type} {θ:Th} {enc:α→Value} {b:Nat} {m:List (Int×α)} {L:List HP} {w:World} {es:Array MapEntry} {clock:Nat} (s:Sat θ (own b (.map es clock)::L) w)
  (h1:es.toList.map (fun e=>(e.key,e.val))=m.map (fun p=>(Value.int .i64 p.1,enc p.2))) (h2:(m.map (·.1)).Nodup) (h3:es.size≤clock) (h4:∀ e∈es,e.born<clock) (h5:(es.toList.map (·.born)).Nodup):Sat θ (omap enc b m::L) w:=by
 obtain ⟨ok,ι,h,a,b1,c,ι₀,h₁,h₂,d1,d2,d3,d4,d5,d6⟩:=s
 exact ⟨ok,ι,h,a,b1,c,ι₀,h₁,h₂,d1,d2,d3,d4,⟨es,clock,d5,h1,h2,h3,h4,h5⟩,d6⟩
theorem Ef.makeMap {t:TypeId} {α:Type} (enc:α→Value):Ef P L env (.makeMap t none) ty (fun v L'=>∃ b,v=.map (some b)∧L' = omap enc b []::L) :=
 Ef.val (fun θ R a w ea s dst pos af g=>⟨_,w.alloc (.map #[] 0),_,by simp [execOp,Instr.makeMap],⟨_,rfl,rfl⟩,Sat.c6 s.alloc (by simp) (by simp) (by simp) (by simp) (by simp)⟩)
theorem lu {α:Type} {enc:α→Value} {kk:IntKind} (k:Int):∀ (es:List MapEntry) (m:List (Int×α)) (i:Nat),es.map (fun e=>(e.key,e.val))=m.map (fun p=>(Value.int .i64 p.1,enc p.2)) →
  Instr.findNow (.int kk) (.int .i64 k) es i=some ((m.findIdx? (fun p=>p.1 == k)).map fun j=>(i+j,(m[j]?.map (fun p=>enc p.2)).getD undef))
 | [],[],i,_=>by simp [Instr.findNow]
 | [],_::_,_,h=>by simp at h
 | _::_,[],_,h=>by simp at h
 | e::es,p::m,i,h=>by
  simp only [List.map_cons,List.cons.injEq,Prod.mk.injEq] at h
  obtain ⟨⟨h1,h2⟩,h3⟩:=h
  have ih:=lu (kk:=kk) k es m (i+1) h3
  simp only [Instr.findNow,h1,Instr.sameNow,if_true]
  by_cases hk:k=p.1
  ·subst hk
   simp [List.findIdx?_cons,h2]
  ·have hb:(k == p.1)=false:=by simpa using hk
   have hb' : (p.1 == k)=false:=by simpa using fun h=>hk h.symm
   simp only [hb,ih,List.findIdx?_cons,hb']
   cases List.findIdx? (fun p=>p.1 == k) m<;>simp
   omega
theorem je {t:TypeId} {k:IntKind} {kk:IntKind} {n:Int} {w:World} {b:Bool} (h:P.underlying t=some (.int kk)):(Instr.checkKey b 10000 t (.int k n)).run P w=.ok () w:=by
 have:∀ m,(Instr.checkKey b (m+1) t (.int k n)).run P w=.ok () w:=fun m=>by simp [Instr.checkKey,run_underlying h]
 exact this 9999
class TyKeyI (P:Program) (T:Nat) (E:outParam Nat) (z:outParam Value):Prop where
 ok:∃ K k,P.underlying T=some (.map K E)∧P.underlying K=some (.int k)∧(P.info? E).map (·.zero)=some (some z)
theorem eB {w:World} {b:Nat} {es es' : Array MapEntry} {c c' : Nat} (hb:w.heap[b]? = some (.map es c)):(setObj b (.map es' c')).run P w=.ok () { w with heap:=w.heap.setIfInBounds b (.map es' c') }:=by simp [setObj,Sem.run,hb]
theorem Sat.setMap {θ:Th} {b:Nat} {o o' : Obj} {L:List HP} {w:World} (s:Sat θ (own b o::L) w):Sat θ (own b o'::L) { w with heap:=w.heap.setIfInBounds b o' }:=by
 have hb:=s.own_heap
 have hlt:=(Array.getElem?_eq_some_iff.1 hb).1
 refine s.update ⟨s.1.tape,s.1.os,s.1.output,s.1.drawn⟩ ?_ (fun k x hk hx=>?_)
 ·simp [hlt]
 ·simp only
  rw [Array.getElem?_setIfInBounds_ne (Ne.symm hk)]
  exact hx
theorem Dd {α:Type} {m:List (Int×α)} {k:Int} {a:α} (h:(m.map (·.1)).Nodup):((ains m k a).map (·.1)).Nodup:=by
 unfold ains
 split
 ·rw [List.map_map]
  have:(fun p:Int×α=>(if p.1=k then (k,a) else p).1)=(·.1):=by
   funext p;split
   ·rename_i h;exact h.symm
   ·rfl
  show ((m.map ((·.1) ∘ fun p=>if p.1=k then (k,a) else p))).Nodup
  rw [show ((·.1) ∘ fun p:Int×α=>if p.1=k then (k,a) else p)=(fun p:Int×α=>(if p.1=k then (k,a) else p).1) from rfl,this]
  exact h
 ·rename_i hn
  rw [List.map_append,List.nodup_append]
  refine ⟨h,by simp,?_⟩
  intro x hx y hy
  simp at hy
  subst hy
  rintro rfl
  apply hn
  obtain ⟨p,hp,rfl⟩:=List.mem_map.1 hx
  exact List.any_eq_true.2 ⟨p,hp,by simp⟩
theorem rX {α:Type} {m:List (Int×α)} {k:Int} {j:Nat} (h:m.findIdx? (fun p=>p.1 == k)=some j):m.any (fun p=>p.1 == k)=true:=by
 obtain ⟨hlt,h1,_⟩:=List.findIdx?_eq_some_iff_getElem.1 h
 exact List.any_eq_true.2 ⟨m[j],List.getElem_mem hlt,h1⟩
theorem jL {α:Type} {k:Int} {a:α}:∀ {m:List (Int×α)} {j:Nat},(m.map (·.1)).Nodup→m.findIdx? (fun p=>p.1 == k)=some j→m.map (fun p=>if p.1=k then (k,a) else p)=m.set j (k,a)
 | [],j,_,h=>by simp at h
 | p::m,j,hn,h=>by
  simp only [List.map_cons,List.nodup_cons] at hn
  rw [List.findIdx?_cons] at h
  by_cases hk:p.1=k
  ·simp [hk] at h
   subst h
   simp only [List.map_cons,hk,if_true,List.set_cons_zero,List.cons.injEq,true_and]
   rw [List.map_congr_left (g:=id),List.map_id]
   intro q hq
   have:q.1≠k:=fun e=>hn.1 (by rw [hk,← e];exact List.mem_map_of_mem hq)
   simp [this]
  ·have hb:(p.1 == k)=false:=by simpa using hk
   simp only [hb] at h
   obtain ⟨i,hi,rfl⟩:=Option.map_eq_some_iff.1 h
   simp only [List.map_cons,hk,if_false,List.set_cons_succ,List.cons.injEq,true_and]
   exact jL hn.2 hi
theorem Ef.mapUpdate {t:TypeId} {x y z' : Operand} {b E:Nat} {z v:Value} {α:Type} {enc:α→Value} {m:List (Int×α)} {Rest:List HP} {k:Int} (e:α) [ht:TyKeyI P t E z] [hp:PickMap L b α enc m Rest] (hx:evE env x=some (.map (some b))) (hy:evE env y=some (.int .i64 k)) (hz:evE env z' = some v) (hv:v=enc e)
  : Ef P L env (.mapUpdate t x y z') ty (fun _ L'=>L' = omap enc b (ains m k e)::Rest) :=
 Ef.skip (fun θ R a w ea s dst pos af g=>by
  subst hv
  obtain ⟨K,kk,h1,h2,h3⟩:=ht.ok
  obtain ⟨es,clock,e1,e2,e3,e4,e5,s2⟩:=(s.perm (hp.perm.append_right R)).omap_parts
  have hb:=s2.own_heap
  have hf:=lu (kk:=kk) k es.toList m 0 e1
  have hget:(getObj b).run P w=.ok (.map es clock) w:=by simp [getObj,Sem.run,hb]
  have hkn:=Dd (k:=k) (a:=e) e2
  cases hj:m.findIdx? (fun p=>p.1 == k) with
  | none =>
   rw [hj] at hf
   simp only [Option.map_none] at hf
   have hna:m.any (fun p=>p.1 == k)=false:=by
    rw [List.findIdx?_eq_none_iff] at hj
    simpa using hj
   refine ⟨_,_,?_,rfl,Sat.c6 (s2.setMap (o':=.map (es.push { key:=.int .i64 k,val:=enc e,born:=clock }) (clock+1))) ?_ hkn ?_ ?_ ?_⟩
   ·simp [execOp,ao ea hx,ao ea hy,ao ea hz,Instr.mapUpdate,run_underlying h1,hget,je h2,Instr.findKey,run_underlying h2,hf,eB hb]
   ·simp [e1,ains,hna]
   ·simp;omega
   ·intro x hx
    rcases Array.mem_push.1 hx with hx|rfl
    ·have:=e4 x hx;omega
    ·simp
   ·simp only [Array.toList_push,List.map_append,List.map_cons,List.map_nil]
    rw [List.nodup_append]
    refine ⟨e5,by simp,?_⟩
    intro x hx y hy
    simp at hy
    subst hy
    obtain ⟨q,hq,rfl⟩:=List.mem_map.1 hx
    have:=e4 q (by simpa using hq)
    omega
  | some j =>
   rw [hj] at hf
   simp only [Option.map_some,Nat.zero_add] at hf
   have hany:=rX hj
   have hset:=jL (a:=e) e2 hj
   obtain ⟨hjlt,hjk,_⟩:=List.findIdx?_eq_some_iff_getElem.1 hj
   have hsz:es.size=m.length:=by
    have:=congrArg List.length e1
    simpa using this
   have hkey:((es[j]?).map (·.key)).getD (Value.int .i64 k)=.int .i64 k:=by
    have h5:=congrArg (fun l=>l[j]?) e1
    simp only [List.getElem?_map,List.getElem?_eq_getElem hjlt,Array.getElem?_toList] at h5
    rw [Array.getElem?_eq_getElem (by omega)] at h5 ⊢
    simp at h5 ⊢
    rw [h5.1]
    simp at hjk
    rw [hjk]
   have hst:(Instr.keyThatStays (((es[j]?).map (·.key)).getD (Value.int .i64 k)) (.int .i64 k)).run P w=.ok (.int .i64 k) w:=by
    rw [hkey]
    have:Instr.sameBits 10000 (.int .i64 k) (.int .i64 k)=true:=by
     show Instr.sameBits (9999+1) (.int .i64 k) (.int .i64 k)=true
     simp [Instr.sameBits]
    simp [Instr.keyThatStays,this]
   refine ⟨_,_,?_,rfl,Sat.c6 (s2.setMap (o':=.map (es.modify j fun x=>{ x with key:=.int .i64 k,val:=enc e }) clock)) ?_ hkn ?_ ?_ ?_⟩
   ·simp [execOp,ao ea hx,ao ea hy,ao ea hz,Instr.mapUpdate,run_underlying h1,hget,je h2,Instr.findKey,run_underlying h2,hf,hst,eB hb]
   ·simp only [ains,hany,if_true,hset]
    rw [Array.toList_modify]
    apply List.ext_getElem?
    intro i
    have h5:=congrArg (fun l=>l[i]?) e1
    simp only [List.getElem?_map] at h5
    simp only [List.getElem?_map,List.getElem?_modify,List.getElem?_set]
    by_cases hij:j=i
    ·subst hij
     have hlt:j<es.toList.length:=by simp;omega
     simp [hjlt,List.getElem?_eq_getElem hlt]
    ·simp only [hij,if_false]
     cases hq:es.toList[i]? with
     | none=>rw [hq] at h5;simpa using h5
     | some q=>rw [hq] at h5;simpa using h5
   ·simpa using e3
   ·intro x hx
    obtain ⟨i,hi,rfl⟩:=Array.mem_iff_getElem.1 hx
    rw [Array.getElem_modify]
    have h6:es[i]'(by simpa using hi)∈es:=Array.getElem_mem _
    split
    ·exact e4 (es[i]'(by simpa using hi)) h6
    ·exact e4 _ h6
   ·have:(es.modify j fun x=>{ x with key:=.int .i64 k,val:=enc e }).toList.map (·.born)=es.toList.map (·.born):=by
     rw [Array.toList_modify]
     apply List.ext_getElem?
     intro i
     simp only [List.getElem?_map,List.getElem?_modify]
     by_cases hij:j=i
     ·subst hij;cases es.toList[j]?<;>simp
     ·simp [hij]
    rw [this]
    exact e5)
theorem vS {α:Type} {k:Int}:∀ {m:List (Int×α)} {j:Nat},(m.map (·.1)).Nodup→m.findIdx? (fun p=>p.1 == k)=some j→aera m k=m.eraseIdx j
 | [],j,_,h=>by simp at h
 | p::m,j,hn,h=>by
  simp only [List.map_cons,List.nodup_cons] at hn
  rw [List.findIdx?_cons] at h
  by_cases hk:p.1=k
  ·simp [hk] at h
   subst h
   simp only [aera,List.filter_cons,hk,beq_self_eq_true,Bool.not_true,Bool.false_eq_true,if_false,List.eraseIdx_zero,List.tail_cons]
   apply List.filter_eq_self.2
   intro q hq
   have:q.1≠k:=fun e=>hn.1 (by rw [hk,← e];exact List.mem_map_of_mem hq)
   simp [this]
  ·have hb:(p.1 == k)=false:=by simpa using hk
   simp only [hb] at h
   obtain ⟨i,hi,rfl⟩:=Option.map_eq_some_iff.1 h
   have ih:=vS hn.2 hi
   simp only [aera,List.filter_cons,hb,Bool.not_false,if_true,List.eraseIdx_cons_succ,List.cons.injEq,true_and]
   exact ih
theorem gN {β γ:Type} (f:β→γ):∀ (l:List β) (j:Nat),(l.eraseIdx j).map f=(l.map f).eraseIdx j
 | [],j=>by simp
 | x::l,0=>by simp
 | x::l,j+1=>by simp [gN f l j]
theorem Ef.delete {t kt:TypeId} {x y:Operand} {b E:Nat} {z:Value} {α:Type} {enc:α→Value} {m:List (Int×α)} {Rest:List HP} {k:Int} [ht:TyKeyI P t E z] [hp:PickMap L b α enc m Rest] (hx:evE env x=some (.map (some b))) (hy:evE env y=some (.int .i64 k))
  : Ef P L env (.call { callee:=.builtin .delete,args:=#[x,y],argTypes:=#[t,kt] }) ty (fun _ L'=>L' = omap enc b (aera m k)::Rest) :=
 Ef.val (fun θ R a w ea s dst pos af g=>by
  obtain ⟨K,kk,h1,h2,h3⟩:=ht.ok
  obtain ⟨es,clock,e1,e2,e3,e4,e5,s2⟩:=(s.perm (hp.perm.append_right R)).omap_parts
  have hb:=s2.own_heap
  have hf:=lu (kk:=kk) k es.toList m 0 e1
  have hget:(getObj b).run P w=.ok (.map es clock) w:=by simp [getObj,Sem.run,hb]
  have hkn:((aera m k).map (·.1)).Nodup:=e2.sublist ((List.filter_sublist).map _)
  have hsz:es.size=m.length:=by
   have:=congrArg List.length e1
   simpa using this
  cases hj:m.findIdx? (fun p=>p.1 == k) with
  | none =>
   rw [hj] at hf
   simp only [Option.map_none] at hf
   have hall:=List.findIdx?_eq_none_iff.1 hj
   have he:aera m k=m:=List.filter_eq_self.2 fun p hp=>by simp [hall p hp]
   refine ⟨.tuple #[],_,_,?_,rfl,Sat.c6 (s2.setMap (o':=.map es clock)) (by rw [he];exact e1) hkn e3 e4 e5⟩
   simp [execOp,resolve,invoke,builtin,ao ea hx,ao ea hy,Builtin.delete_,run_underlying h1,hget,je h2,Instr.findKey,run_underlying h2,hf,eB hb]
  | some j =>
   rw [hj] at hf
   simp only [Option.map_some,Nat.zero_add] at hf
   have hera:=vS e2 hj
   obtain ⟨hjlt,hjk,_⟩:=List.findIdx?_eq_some_iff_getElem.1 hj
   have htl:(es.eraseIdxIfInBounds j).toList=es.toList.eraseIdx j:=by
    simp [Array.eraseIdxIfInBounds,show j<es.size by omega]
   refine ⟨.tuple #[],_,_,?_,rfl,Sat.c6 (s2.setMap (o':=.map (es.eraseIdxIfInBounds j) clock)) ?_ hkn ?_ ?_ ?_⟩
   ·simp [execOp,resolve,invoke,builtin,ao ea hx,ao ea hy,Builtin.delete_,run_underlying h1,hget,je h2,Instr.findKey,run_underlying h2,hf,eB hb]
   ·rw [htl,hera,gN,gN,e1]
   ·have h7:(es.eraseIdxIfInBounds j).size=(es.toList.eraseIdx j).length:=by rw [← htl,Array.length_toList]
    have h8:(es.toList.eraseIdx j).length≤es.toList.length:=List.length_eraseIdx_le es.toList j
    have h9:es.toList.length=es.size:=Array.length_toList
    omega
   ·intro x hx
    have:x∈es.toList.eraseIdx j:=by rw [← htl];exact Array.mem_toList_iff.2 hx
    exact e4 x (by simpa using List.mem_of_mem_eraseIdx this)
   ·rw [htl,gN]
    exact e5.sublist (List.eraseIdx_sublist _ _))
end ops
end Go.V
namespace Go.V
class PickHP (L:List HP) (A:HP) (R:outParam (List HP)):Prop where
 perm:L.Perm (A::R)
instance (A:HP) (L:List HP):PickHP (A::L) A L:=⟨List.Perm.refl _⟩
instance (A B:HP) (L R:List HP) [h:PickHP L A R]:PickHP (B::L) A (B::R):=⟨(h.perm.cons B).trans (List.Perm.swap _ _ _)⟩
theorem Ent.take {L R pre R' : List HP} {A:HP} [h:PickHP L A R] (hr:Ent R (pre++R')):Ent L ((A::pre)++R'):=(Ent.perm h.perm).trans hr.cons
theorem Ent.j5 {L R L' : List HP} {A:HP} [h:PickHP L A R] (hr:Ent R L'):Ent L (A::L'):=(Ent.perm h.perm).trans hr.cons
theorem Ef.a6 {P:Program} {env:Env} {L:List HP} {f:FuncId} {xs:Array Operand} {ats:Array TypeId} {ty:TypeId} {vs:List Value} {post:Value→List HP→Prop}
  (c:Tri P f vs.toArray L post) (hv:eJ env xs.toList=some vs):Ef P L env (.call { callee:=.value (.func f),args:=xs,argTypes:=ats }) ty post:=by
 have h:=Ef.call (R':=[]) (L:=L) (ats:=ats) (ty:=ty) c hv (by rw [List.append_nil];exact Ent.refl _)
 intro θ R a w o next Q ha s h1 h2 hn
 refine h θ R a w o next Q ha s h1 h2 ?_
 rintro v L' w' ⟨L₁,hp,rfl⟩ s'
 rw [List.append_nil] at s'
 exact hn v L₁ w' hp s'
end Go.V
namespace Go.V
theorem Ent.mk {L L' : List HP} (h:∀ θ R w,Sat θ (L++R) w→Sat θ (L'++R) w):Ent L L':=h
theorem Ent.head {A B:HP} {L:List HP} (h:∀ θ R w,Sat θ (A::R) w→Sat θ (B::R) w):Ent (A::L) (B::L):=fun θ R w s=>h θ (L++R) w s
end Go.V
namespace Go.V
section at_
variable {P:Program} {N:Nat} {env:Env} {L:List HP} {K:Post} {ty:TypeId} {v:Value}
theorem Ev.v6 {x:Operand} (h:Ev P L env (.move x) ty v):Ev P L env (.move x) ty v:=h
theorem Ev.p8 {x:Operand} (h:Ev P L env (.assign x) ty v):Ev P L env (.assign x) ty v:=h
theorem Ev.u9 {a b c:Operand} (h:Ev P L env (.pick a b c) ty v):Ev P L env (.pick a b c) ty v:=h
theorem Ev.n9 {x:Operand} {i:Nat} (h:Ev P L env (.extract x i) ty v):Ev P L env (.extract x i) ty v:=h
theorem Ev.x5 {o:BinOp} {t yt:TypeId} {x y:Operand} (h:Ev P L env (.binOp o t x y yt) ty v):Ev P L env (.binOp o t x y yt) ty v:=h
theorem Ev.y7 {o:UnOp} {t:TypeId} {x:Operand} (h:Ev P L env (.unOp o t x) ty v):Ev P L env (.unOp o t x) ty v:=h
theorem Ev.l5 {s t:TypeId} {x:Operand} (h:Ev P L env (.convert s t x) ty v):Ev P L env (.convert s t x) ty v:=h
theorem Ev.x0 {x:Operand} (h:Ev P L env (.nilCheck x) ty v):Ev P L env (.nilCheck x) ty v:=h
theorem Ev.j8 {s f:Nat} {x:Operand} (h:Ev P L env (.fieldAddr s x f) ty v):Ev P L env (.fieldAddr s x f) ty v:=h
theorem Ev.n0 {t:TypeId} {x:Operand} (h:Ev P L env (.load t x) ty v):Ev P L env (.load t x) ty v:=h
theorem Ev.e9 {t:TypeId} {x i:Operand} (h:Ev P L env (.indexAddr t x i) ty v):Ev P L env (.indexAddr t x i) ty v:=h
theorem Ev.q7 {t:TypeId} {ps:Array (Nat×Operand)} (h:Ev P L env (.build t ps) ty v):Ev P L env (.build t ps) ty v:=h
theorem Ev.q6 {t:TypeId} {x:Operand} {a b c:Option Operand} (h:Ev P L env (.slice t x a b c) ty v):Ev P L env (.slice t x a b c) ty v:=h
theorem Ev.v8 {c:Call} (h:Ev P L env (.call c) ty v):Ev P L env (.call c) ty v:=h
theorem Ev.v7 {fn:Fn} {fs cs:Array Operand} (h:Ev P L env (.makeFunc fn fs cs) ty v):Ev P L env (.makeFunc fn fs cs) ty v:=h
variable {ops:Array Oper} {rest:List Oper} {op:Op} {pos:String} {af:Array Edge}
theorem GO.a6 {d:Nat} (h:GO P N ops (⟨some d,op,ty,pos,af,none⟩::rest) env L K):GO P N ops (⟨some d,op,ty,pos,af,none⟩::rest) env L K:=h
theorem GO.e8 (h:GO P N ops (⟨none,op,ty,pos,af,none⟩::rest) env L K):GO P N ops (⟨none,op,ty,pos,af,none⟩::rest) env L K:=h
theorem GO.d8 {d j:Nat} {b:Bool} (h:GO P N ops (⟨some d,op,ty,pos,af,some (j,b)⟩::rest) env L K):GO P N ops (⟨some d,op,ty,pos,af,some (j,b)⟩::rest) env L K:=h
variable {done:List Nat} {plan:List Stp} {pend:List PE} {i:Nat}
theorem GP.c7 {s:Stp} (h:GP P N ops done (s::plan) pend env L K):GP P N ops done (s::plan) pend env L K:=h
theorem GPW.c8 {d:Nat} (h:GPW P N ops done (.ev i) plan (some d) op ty pend env L K):GPW P N ops done (.ev i) plan (some d) op ty pend env L K:=h
theorem GPW.a6 {d:Nat} (h:GPW P N ops done (.ef i) plan (some d) op ty pend env L K):GPW P N ops done (.ef i) plan (some d) op ty pend env L K:=h
theorem GPW.c7 (h:GPW P N ops done (.ef i) plan none op ty pend env L K):GPW P N ops done (.ef i) plan none op ty pend env L K:=h
theorem GPK.a6 {pe:PE} {ts acc:List PE} (h:GPK P N ops done i plan (pe::ts) acc env L K):GPK P N ops done i plan (pe::ts) acc env L K:=h
theorem G.c7 (id:Nat) {l:Array Oper} {dr:Bool} {x y:Code} (h:G P N (.seq (.seq (.region id l dr) x) y) env L K):G P N (.seq (.seq (.region id l dr) x) y) env L K:=h
theorem G.atS (id:Nat) {l:Array Oper} {dr:Bool} {y:Code} (h:G P N (.seq (.region id l dr) y) env L K):G P N (.seq (.region id l dr) y) env L K:=h
theorem G.a7 {id:Nat} {l:List Oper} (h:G P N (.region id l.toArray true) env L K):G P N (.region id l.toArray true) env L K:=h
end at_
end Go.V
namespace Go.V
section
variable {P:Program} {N:Nat} {env:Env} {L:List HP} {K:Post}
theorem G.c9 {c:Code} {φ:Prop} (h:∀ θ R w,Sat θ (L++R) w→φ) (k:φ→G P N c env L K):G P N c env L K:=fun r θ Y a w hr i=>let ⟨_,_,_,s⟩:=i;k (h θ _ w s) r θ Y a w hr i
theorem GO.c9 {ops:Array Oper} {l:List Oper} {φ:Prop} (h:∀ θ R w,Sat θ (L++R) w→φ) (k:φ→GO P N ops l env L K):GO P N ops l env L K:=fun r θ Y a w hr i=>let ⟨_,_,_,s⟩:=i;k (h θ _ w s) r θ Y a w hr i
theorem G.ent {c:Code} {L' : List HP} (hl:Ent L L') (h:G P N c env L' K):G P N c env L K:=h.conseq (EnvSub.refl _) hl
theorem GO.ent {ops:Array Oper} {l:List Oper} {L' : List HP} (hl:Ent L L') (h:GO P N ops l env L' K):GO P N ops l env L K:=h.conseq (EnvSub.refl _) hl
theorem GP.ent {ops:Array Oper} {done:List Nat} {plan:List Stp} {pend:List PE} {L' : List HP} (hl:Ent L L') (h:GP P N ops done plan pend env L' K):GP P N ops done plan pend env L K:=fun hK hp hs hcl θ Y a w S i hpo hpw=>h hK hp hs hcl θ Y a w S (i.less (EnvSub.refl _) hl) hpo hpw
theorem GPW.ent {ops:Array Oper} {done:List Nat} {plan:List Stp} {pend:List PE} {L' : List HP} {s:Stp} {dst:Option Tmp} {op:Op} {ty:TypeId} (hl:Ent L L') (h:GPW P N ops done s plan dst op ty pend env L' K):GPW P N ops done s plan dst op ty pend env L K:=fun pos af g h1 h2=>GP.ent hl (h pos af g h1 h2)
theorem G.a8 {α:Type} {x y:Code} (Inv:α→Prop) (e:α→Env) (l:α→List HP) (h:G P N x env L (K.seq fun env' L'=>∃ g,Inv g∧EnvSub env' (e g)∧Ent L' (l g))) (h' : ∀ g,Inv g→G P N y (e g) (l g) K):G P N (.seq x y) env L K :=
 G.mid _ h (by rintro env' L' ⟨g,h1,h2,h3⟩;exact (h' g h1).conseq h2 h3)
theorem G.less {c:Code} {env' : Env} (he:EnvSub env env') (h:G P N c env' L K):G P N c env L K:=h.conseq he (Ent.refl _)
theorem G.c6 {α:Type} {c:Code} {f:α→List HP} (h:∀ x,G P N c env (f x++L) K):G P N c env (hex (fun x=>aX (f x))::L) K:=G.open_ (φ:=fun _=>True) (L':=fun x=>f x++L) (fun θ R w s =>
 let ⟨x,s1⟩:=Sat.ofHex (show Sat θ (hex (fun x=>aX (f x))::(L++R)) w from s);⟨x,trivial,by rw [List.append_assoc];exact s1.ofStars⟩) (fun x _=>h x)
theorem GO.c7 {α:Type} {ops:Array Oper} {l:List Oper} {f:α→List HP} (h:∀ x,GO P N ops l env (f x++L) K):GO P N ops l env (hex (fun x=>aX (f x))::L) K:=GO.open_ (φ:=fun _=>True) (L':=fun x=>f x++L) (fun θ R w s =>
 let ⟨x,s1⟩:=Sat.ofHex (show Sat θ (hex (fun x=>aX (f x))::(L++R)) w from s);⟨x,trivial,by rw [List.append_assoc];exact s1.ofStars⟩) (fun x _=>h x)
theorem Ent.e9 {α:Type} {f:α→List HP} {R:List HP} (x:α) (h:Ent L (f x++R)):Ent L (hex (fun x=>aX (f x))::R):=fun θ R' w s=>by
 have s1:=h θ R' w s
 rw [List.append_assoc] at s1
 exact Sat.c7 (f:=fun x=>aX (f x)) x (Sat.a6 s1)
theorem Ent.pure {φ:Prop} {L' : List HP} (hφ:φ) (h:Ent L L'):Ent L (bK φ::L'):=fun θ R w s=>Sat.addPure (h θ R w s) hφ
theorem G.c8 {c:Code} {φ:Prop} (h:φ→G P N c env L K):G P N c env (bK φ::L) K:=G.open_ (φ:=fun _:Unit=>φ) (L':=fun _=>L) (fun θ R w s=>⟨(),Sat.ofPure (show Sat θ (bK φ::(L++R)) w from s),s.tail⟩) (fun _=>h)
theorem GO.d7 {ops:Array Oper} {l:List Oper} {φ:Prop} (h:φ→GO P N ops l env L K):GO P N ops l env (bK φ::L) K:=GO.open_ (φ:=fun _:Unit=>φ) (L':=fun _=>L) (fun θ R w s=>⟨(),Sat.ofPure (show Sat θ (bK φ::(L++R)) w from s),s.tail⟩) (fun _=>h)
theorem Ent.dup {A:HP} (hA:Pers A):Ent (A::L) (A::A::L):=fun _ _ _ s=>Sat.dup hA s
theorem Ent.freezeSl {α:Type} {enc:α→List Value} {sz E:Nat} {ad:Option Addr} {cap:Nat} {xs:List α}:Ent (osl enc sz E ad cap xs::L) (isl enc sz ad xs::L):=fun _ _ _ s=>Sat.freezeSl s
theorem Ent.c6 {α:Type} {enc:α→List Value} {sz E b:Nat} {cs:List Value} {xs:List α} {n:Nat} (hc:cs=xs.flatMap enc) (hn:xs.length=n) (hs:∀ x∈xs,(enc x).length=sz) (hm:n≤9223372036854775807):Ent (obj b E cs::L) (osl enc sz E (some ⟨b,0,none⟩) n xs::L):=fun θ R w s=>by
 subst hc hn
 exact Sat.osl_mk (show Sat θ (own b (.cells (xs.flatMap enc).toArray E (0,0))::(L++R)) w from s) hs (Nat.le_refl _) (by simp only [maxLen];omega) (by simp [cA hs]) (List.take_of_length_le (by rw [cA hs];exact Nat.le_refl _))
theorem Ent.a7 {α:Type} (enc:α→List Value) (sz E:Nat):Ent L (osl enc sz E none 0 []::L):=fun _ _ _ s=>Sat.d7 enc sz E s
theorem Ent.c8 {α:Type} (enc:α→List Value) (sz:Nat) (ad:Option Addr):Ent L (isl enc sz ad []::L):=fun θ R w s=>by
 obtain ⟨ok,ι,h',a,b1,c,d⟩:=s
 exact ⟨ok,ι,h',a,b1,c,Hp.emp,Hp.emp,h',Hp.a6 _,Hp.a7 _,Hp.a6 _,Hp.sub.refl _,⟨by simp,.inl rfl⟩,d⟩
theorem jf {α:Type} {enc:α→List Value} {sz:Nat} {xs:List α} [h:Rds L none α enc sz xs]:∀ θ R w,Sat θ (L++R) w→xs=[]:=fun θ R w s=>by
 rcases (h.rd θ R w s).2 with h|⟨a,ha,_⟩
 ·exact h
 ·cases ha
theorem fe {α:Type} {enc:α→List Value} {sz E:Nat} {ad:Option Addr} {cap:Nat} {xs:List α} {R' : List HP} [h:PickOsl L ad α enc sz E cap xs R']:∀ θ R w,Sat θ (L++R) w→xs.length≤cap∧cap≤9223372036854775807:=fun θ R w s=>by
 have:=(s.perm (h.perm.append_right R)).osl_parts
 simp only [maxLen] at this
 exact ⟨this.2.1,by omega⟩
instance oslDrop {α:Type} {enc:α→List Value} {sz E:Nat} {ad:Option Addr} {cap:Nat} {xs:List α} {R' : List HP} [h:PickOsl L ad α enc sz E cap xs R'] (k:Nat):Rds L (advA ad cap sz k) α enc sz (xs.drop k):=⟨fun _ R _ s =>
 have s1:=s.perm (h.perm.append_right R)
 RdSl.drop (Sat.d8 s1) s1.osl_parts.2.1 k⟩
def allP {α:Type} (f:α→HP) (l:List α):HP:=fun ι _=>∀ x∈l,f x ι Hp.emp
theorem oh {α:Type} (f:α→HP) (l:List α):Pers (allP f l):=fun _ _ h=>h
theorem Ent.c7 {α:Type} (f:α→HP):Ent L (allP f []::L):=fun θ R w s=>by
 obtain ⟨ok,ι,h',a,b1,c,d⟩:=s
 exact ⟨ok,ι,h',a,b1,c,Hp.emp,Hp.emp,h',Hp.a6 _,Hp.a7 _,Hp.a6 _,Hp.sub.refl _,(by intro x hx;cases hx),d⟩
structure PersM (A:HP):Prop where
 pers:Pers A
 mono:∀ ι ι' h,Hp.sub ι ι'→A ι h→A ι' h
theorem bB {α:Type} (enc:α→List Value) (sz:Nat) (ad:Option Addr) (xs:List α):PersM (isl enc sz ad xs):=⟨ix enc sz ad xs,fun ι ι' h hs hi=>by
 obtain ⟨h1,h2⟩:=hi
 refine ⟨h1,?_⟩
 rcases h2 with h2|⟨g,off,cur,E,fz,f1,f2,f3⟩
 ·exact .inl h2
 ·exact .inr ⟨g,off,cur,E,fz,f1,hs _ _ f2,f3⟩⟩
theorem Ent.g6 {α:Type} {f:α→HP} {l l' : List α} (h:∀ x∈l',x∈l):Ent (allP f l::L) (allP f l'::L):=fun θ R w s=>by
 obtain ⟨ok,ι,h',a,b1,c,ι₀,h₁,h₂,d1,d2,d3,d4,d5,d6⟩:=s
 exact ⟨ok,ι,h',a,b1,c,ι₀,h₁,h₂,d1,d2,d3,d4,fun x hx=>d5 x (h x hx),d6⟩
theorem Ent.c9 {α:Type} {f:α→HP} (hf:∀ x,PersM (f x)) {x:α} {l:List α}:Ent (f x::allP f l::L) (allP f (x::l)::L):=fun θ R w s=>by
 obtain ⟨ok,ι,h',a,b1,c,ι₁,h₁,h₂,d1,d2,d3,d4,d5,ι₂,h₃,h₄,e1,e2,e3,e4,e5,e6⟩:=s
 refine ⟨ok,ι,h',a,b1,c,ι,Hp.emp,h₄,Hp.sub.refl _,Hp.a7 _,Hp.a6 _,e4.trans d4,?_,e6⟩
 intro y hy
 rcases List.mem_cons.1 hy with rfl|hy
 ·exact (hf _).mono _ _ _ d1 ((hf _).pers _ _ d5)
 ·exact (hf _).mono _ _ _ e1 (e5 y hy)
theorem Ent.e8 {α:Type} {f:α→HP} (hf:∀ x,PersM (f x)) {l l' : List α}:Ent (allP f l::allP f l'::L) (allP f (l++l')::L):=fun θ R w s=>by
 obtain ⟨ok,ι,h',a,b1,c,ι₁,h₁,h₂,d1,d2,d3,d4,d5,ι₂,h₃,h₄,e1,e2,e3,e4,e5,e6⟩:=s
 refine ⟨ok,ι,h',a,b1,c,ι,Hp.emp,h₄,Hp.sub.refl _,Hp.a7 _,Hp.a6 _,e4.trans d4,?_,e6⟩
 intro y hy
 rcases List.mem_append.1 hy with hy|hy
 ·exact (hf _).mono _ _ _ d1 (d5 y hy)
 ·exact (hf _).mono _ _ _ e1 (e5 y hy)
theorem Ent.d9 {α:Type} {f:α→HP} (hf:∀ x,PersM (f x)) {x:α}:Ent (f x::L) (allP f [x]::L):=fun θ R w s=>by
 obtain ⟨ok,ι,h',a,b1,c,ι₁,h₁,h₂,d1,d2,d3,d4,d5,d6⟩:=s
 refine ⟨ok,ι,h',a,b1,c,ι₁,h₁,h₂,d1,d2,d3,d4,?_,d6⟩
 intro y hy
 simp at hy
 subst hy
 exact (hf _).pers _ _ d5
theorem Ent.a8 {α:Type} {f:α→HP} {l:List α} {x:α} (h:x∈l):Ent (allP f l::L) (f x::allP f l::L):=fun θ R w s=>by
 obtain ⟨ok,ι,h',a,b1,c,ι₁,h₁,h₂,d1,d2,d3,d4,d5,d6⟩:=s
 exact ⟨ok,ι,h',a,b1,c,ι₁,Hp.emp,h',d1,Hp.a7 _,Hp.a6 _,Hp.sub.refl _,d5 x h,ι₁,h₁,h₂,d1,d2,d3,d4,d5,d6⟩
theorem Ent.frz {α:Type} {enc:α→List Value} {sz E:Nat} (ad:Option Addr) {cap:Nat} {xs:List α} {R:List HP} [h:PickOsl L ad α enc sz E cap xs R]:Ent L (isl enc sz ad xs::R):=(Ent.perm h.perm).trans Ent.freezeSl
theorem Ent.at {A:HP} {R L' : List HP} [h:PickHP L A R] (hr:Ent (A::R) L'):Ent L L':=(Ent.perm h.perm).trans hr
theorem Ent.swap {A B:HP}:Ent (A::B::L) (B::A::L):=Ent.perm (List.Perm.swap _ _ _)
theorem Ent.a6 {A:HP} {L' : List HP} (h:Ent L L'):Ent (A::L) (A::L'):=h.cons
end
theorem ResOk.cell {P:Program} {N:Nat} {env:Env} {L Rest:List HP} {rs:List ResultVar} {vs cs:List Value} {x b T n:Nat} {t:TypeId} [ht:TyAgg P t n] [hp:PickObj L b T cs Rest] (h:env.lookup x=some (.pointer (some ⟨b,0,none⟩))) (hn:cs.length=n) (hr:ResOk P N env L rs vs):ResOk P N env L (.cell x t::rs) (.agg cs.toArray::vs):=by
 intro θ R a w ea s g h1 h2
 have h3:=ea.at_ x _ h
 have hb:=s.obj_heap hp.perm
 have hl:=run_loadCells_list (P:=P) w ⟨b,0,none⟩ cs (fun j v hv=>by rw [dY,cS hb];simpa using hv)
 rw [hn] at hl
 simp [List.mapM_cons,hr θ R a w ea s g h1 h2,h2,h3,asAddr,loadVar,ht.run,TyAgg.sizeOf_run,hl]
theorem ResOk.a6 {P:Program} {N:Nat} {env:Env} {L Rest:List HP} {rs:List ResultVar} {vs:List Value} {v:Value} {x b T:Nat} {t:TypeId} [ht:TyOne P t] [hp:PickObj L b T [v] Rest] (h:env.lookup x=some (.pointer (some ⟨b,0,none⟩))) (hr:ResOk P N env L rs vs):ResOk P N env L (.cell x t::rs) (v::vs):=by
 intro θ R a w ea s g h1 h2
 have h3:=ea.at_ x _ h
 have hb:=s.obj_heap hp.perm
 simp [List.mapM_cons,hr θ R a w ea s g h1 h2,h2,h3,asAddr,loadVar,ht.run,cS hb]
def bigO {α:Type} (f:α→HP) (l:List α):HP:=aX (l.map f)
theorem Ent.g7 {α:Type} (f:α→HP) {L:List HP}:Ent L (bigO f []::L):=fun _ _ _ s=>Sat.a6 (A:=[]) s
theorem Ent.bigO_snoc {α:Type} {f:α→HP} {x:α} {l:List α} {L:List HP}:Ent (f x::bigO f l::L) (bigO f (l++[x])::L):=fun θ R w s=>by
 have s1:Sat θ (bigO f l::f x::(L++R)) w:=s.perm (List.Perm.swap _ _ _)
 have s2:=Sat.ofStars s1
 refine Sat.a6 (A:=(l++[x]).map f) ?_
 simpa using s2
theorem Ent.bigO_cons {α:Type} {f:α→HP} {x:α} {l:List α} {L:List HP}:Ent (f x::bigO f l::L) (bigO f (x::l)::L):=fun θ R w s=>by
 have s1:Sat θ (bigO f l::f x::(L++R)) w:=s.perm (List.Perm.swap _ _ _)
 have s2:=Sat.ofStars s1
 refine Sat.a6 (A:=(x::l).map f) ?_
 exact s2.perm List.perm_middle
theorem Ent.bigO_uncons {α:Type} {f:α→HP} {x:α} {l:List α} {L:List HP}:Ent (bigO f (x::l)::L) (f x::bigO f l::L):=fun θ R w s=>by
 have s2:Sat θ (f x::(l.map f++(L++R))) w:=Sat.ofStars (A:=(x::l).map f) s
 have s3:Sat θ (l.map f++(f x::(L++R))) w:=s2.perm List.perm_middle.symm
 exact (Sat.a6 (A:=l.map f) s3).perm (List.Perm.swap _ _ _)
def encZ (k:IntKind) (x:Int):List Value:=[.int k x]
theorem eS (k:IntKind) (x:Int):∀ u∈encZ k x,u.oneCell' = true:=by simp [encZ,Value.oneCell']
theorem lr {α:Type} (f:α→Value) (xs:List α):xs.flatMap (fun x=>[f x])=xs.map f:=by
 induction xs with
 | nil=>rfl
 | cons x xs ih=>simp [ih]
end Go.V
namespace Go.V
class TyBool (P:Program) (T:Nat):Prop where
 under:P.underlying T=some .bool
section
variable {P:Program} {env:Env} {L:List HP} {ty:TypeId}
theorem mX {t:TypeId} {a b:Bool} {w:World} {n:Nat} (he:P.underlying t=some .bool):(Op.equalIn (n+1) t (.bool a) (.bool b)).run P w=.ok (a == b) w:=by
 simp [Op.equalIn,run_underlying he]
theorem Ev.r5 {t yt:TypeId} {x y:Operand} {φ ψ:Prop} [Decidable φ] [Decidable ψ] [ht:TyBool P t] (hx:evE env x=some (.bool (dB φ))) (hy:evE env y=some (.bool (dB ψ))):Ev P L env (.binOp .neq t x y yt) ty (.bool (dB (¬(φ↔ψ)))) :=
 Ev.mk (fun _ _ _ w ea _ _ _ _ _=>by
  have h1:=gG (P:=P) (w:=w) (fun n=>mX (n:=n) (a:=dB φ) (b:=dB ψ) ht.under)
  have h2:(!(dB φ == dB ψ))=dB (¬(φ↔ψ)):=by
   rw [cu,cu,cu]
   by_cases h:φ<;>by_cases h' : ψ<;>simp [h,h']
  simp [execOp,ao ea hx,ao ea hy,eqGuard,binOp,h1,h2])
theorem Ev.r6 {t yt:TypeId} {x y:Operand} {φ ψ:Prop} [Decidable φ] [Decidable ψ] [ht:TyBool P t] (hx:evE env x=some (.bool (dB φ))) (hy:evE env y=some (.bool (dB ψ))):Ev P L env (.binOp .eql t x y yt) ty (.bool (dB (φ↔ψ))) :=
 Ev.mk (fun _ _ _ w ea _ _ _ _ _=>by
  have h1:=gG (P:=P) (w:=w) (fun n=>mX (n:=n) (a:=dB φ) (b:=dB ψ) ht.under)
  have h2:(dB φ == dB ψ)=dB (φ↔ψ):=by
   rw [cu,cu,cu]
   by_cases h:φ<;>by_cases h' : ψ<;>simp [h,h']
  simp [execOp,ao ea hx,ao ea hy,eqGuard,binOp,h1,h2])
theorem vR (a b:ByteArray):(a.toList == b.toList)=decide (a=b):=by
 rw [ByteArray.toList_eq,ByteArray.toList_eq]
 cases a with|mk a=>cases b with|mk b =>
 by_cases h:a=b
 ·subst h;simp
 ·simp [h]
theorem Ev.u0 {t yt:TypeId} {x y:Operand} {a b:ByteArray} (hx:evE env x=some (.string a)) (hy:evE env y=some (.string b)):Ev P L env (.binOp .eql t x y yt) ty (.bool (dB (a=b))) :=
 Ev.mk (fun _ _ _ w ea _ _ _ _ _=>by
  simp [execOp,ao ea hx,ao ea hy,eqGuard,binOp,Op.stringOp,cu,vR])
theorem Ev.r8 {t yt:TypeId} {x y:Operand} {a b:ByteArray} (hx:evE env x=some (.string a)) (hy:evE env y=some (.string b)):Ev P L env (.binOp .neq t x y yt) ty (.bool (dB (¬a=b))) :=
 Ev.mk (fun _ _ _ w ea _ _ _ _ _=>by
  simp [execOp,ao ea hx,ao ea hy,eqGuard,binOp,Op.stringOp,cu,vR])
theorem jP (xs:List Int) (k:IntKind):xs.flatMap (encZ k)=xs.map (Value.int k):=lr _ xs
theorem Ev.j6 {s t:TypeId} {x:Operand} {ad:Option Addr} {n c E sz bb:Nat} {z:List Value} {xs:List Int} [hs:TySl P s E sz bb z] [he:TyInt P E .u8] [ht:TyStr P t] [hr:Rds L ad Int (encZ .u8) 1 xs] (hx:evE env x=some (.slice ad n c)) (hn:n=xs.length) :
  Ev P L env (.convert s t x) ty (.string (strOfNums xs)) :=
 Ev.mk (fun θ R _ w ea st _ _ _ _=>by
  subst hn
  obtain ⟨h1,h2⟩:=hr.rd θ R w st
  have hc:(convert s t (.slice ad xs.length c)).run P w=.ok (.string (strOfNums xs)) w:=by
   rw [run_convert_bytes_string w s t E ad xs.length c hs.under he.under ht.under]
   rcases h2 with rfl|⟨a,rfl,h3⟩
   ·cases ad with
    | none=>simp [Conv.bytesToString,strOfNums];rfl
    | some a =>
     have hl:(loadCells a 0).run P w=.ok (([]:List Int).map (Value.int .u8)).toArray w:=by simp [loadCells,loadCellsFrom]
     exact (run_bytesToString w a 0 c [] hl).trans (by simp [strOfNums];rfl)
   ·rw [jP] at h3
    have hl:=run_loadCells_list (P:=P) w a (xs.map (Value.int .u8)) h3
    rw [List.length_map] at hl
    rw [run_bytesToString w a xs.length c xs hl,foldl_push_bytes]
    simp [strOfNums,ByteArray.empty,ByteArray.emptyWithCapacity]
    rfl
  simp [execOp,ao ea hx,hc])
theorem Ef.j8 {t:TypeId} {x:Operand} {b n c E T sz bb:Nat} {z:List Value} (xs:List Int) {cs:List Value} {Rest:List HP} [ht:TySl P t E sz bb z] [he:TyInt P E .u8] [hp:PickObj L b T cs Rest] (hx:evE env x=some (.slice (some ⟨b,0,none⟩) n c)) (hc:cs=xs.flatMap (encZ .u8)) :
  Ef P L env (.convert t t x) ty (fun v L'=>v=.slice (some ⟨b,0,none⟩) n c∧L' = isl (encZ .u8) 1 (some ⟨b,0,none⟩) xs::Rest) :=
 Ef.val (fun θ R ρ w ea s dst pos af g=>by
  subst hc
  have s1:Sat θ (own b (.cells (xs.flatMap (encZ .u8)).toArray T (0,0))::(Rest++R)) w:=s.perm (hp.perm.append_right R)
  have hb:=s1.own_heap
  have hsh:w.shape? b=some (T,(xs.flatMap (encZ .u8)).length):=by simp [World.shape?,hb]
  refine ⟨_,w.freeze ⟨b,(xs.flatMap (encZ .u8)).length,none⟩ 1,_,by simp [execOp,ao ea hx,convert,run_underlying ht.under,run_underlying he.under,markStringish,hsh],⟨rfl,rfl⟩,?_⟩
  have hlt:b<w.heap.size:=by
   rcases Nat.lt_or_ge b w.heap.size with h|h
   ·exact h
   ·rw [Array.getElem?_eq_none h] at hb;cases hb
  have s2:Sat θ (own b (.cells (xs.flatMap (encZ .u8)).toArray T ((xs.flatMap (encZ .u8)).length,(xs.flatMap (encZ .u8)).length+1))::(Rest++R)) (w.freeze ⟨b,(xs.flatMap (encZ .u8)).length,none⟩ 1):=by
   refine s1.update ⟨s.1.tape,s.1.os,s.1.output,s.1.drawn⟩ ?_ ?_
   ·simp only [World.freeze,if_neg (show ¬(1=0) by decide),Array.getElem?_modify,if_true,hb,Option.map_some]
    simp
   ·intro k o hk h
    simp only [World.freeze,if_neg (show ¬(1=0) by decide),Array.getElem?_modify]
    rw [if_neg (fun e=>hk e.symm)]
    exact h
  obtain ⟨ok,ι,h,a,b1,c1,ι₀,h₁,h₂,d1,d2,d3,d4,d5,d6⟩:=s2.freeze
  refine ⟨ok,ι,h,a,b1,c1,ι₀,h₁,h₂,d1,d2,d3,d4,⟨fun _ _=>rfl,.inr ⟨b,0,_,_,_,rfl,d5,?_⟩⟩,d6⟩
  intro i v hv
  simpa using hv)
theorem kN {α:Type} [Inhabited α] (f:Nat→α) (x:α) (n:Nat) (h:∀ i,i<n→f i=x):(Array.range n).map f=(List.replicate n x).toArray:=by
 apply Array.ext
 ·simp
 ·intro i h1 h2
  simp at h1 ⊢
  exact h i h1
theorem Ef.makeSlice {t:TypeId} {x y:Operand} {E bb:Nat} {z0:Value} {α:Type} (enc:α→List Value) (e:α) {n:Int} [ht:TySl P t E 1 bb [z0]] (hx:evE env x=some (.int .i64 n)) (hy:evE env y=some (.int .i64 n)) (he:enc e=[z0]) (h0:0≤n) (h1:n*bb≤16777216) (h2:n≤1000000000) :
  Ef P L env (.makeSlice t x y) ty (fun v L'=>∃ b,v=.slice (some ⟨b,0,none⟩) n.toNat n.toNat∧L' = osl enc 1 E (some ⟨b,0,none⟩) n.toNat (List.replicate n.toNat e)::L) :=
 Ef.val (fun θ R a w ea s dst pos af g=>⟨.slice (some ⟨w.heap.size,0,none⟩) n.toNat n.toNat,w.alloc (.cells (List.replicate n.toNat z0).toArray E),_,by
  obtain ⟨ii,zz,i1,i2,i3,i4,i5⟩:=ht.parts
  have hz:zz.cells=#[z0]:=by
   have:=i3
   apply Array.ext'
   simpa using this
  have hm:madeCells zz.cells (n.toNat*ii.size)=(List.replicate n.toNat z0).toArray:=by
   rw [hz,i4,Nat.mul_one]
   exact kN _ _ _ (fun i _=>by simp [Nat.mod_one])
  have hk:=run_make (P:=P) w t E ii zz ht.under i1 i2 .i64 .i64 n n h0 (Int.le_refl _) (by rw [i5,Int.mul_comm];omega) (by omega)
  rw [hm] at hk
  simp [execOp,ao ea hx,ao ea hy,hk],⟨_,rfl,rfl⟩,by
   have s1:=s.alloc (o:=.cells (List.replicate n.toNat z0).toArray E)
   refine Sat.osl_mk (enc:=enc) (sz:=1) (cap:=n.toNat) (xs:=List.replicate n.toNat e) (L:=L++R) s1 ?_ (by simp) (by simp only [maxLen];omega) (by simp) ?_
   ·intro x hx
    rw [List.eq_of_mem_replicate hx,he]
    rfl
   ·have:∀ k,(List.replicate k e).flatMap enc=List.replicate k z0:=by
     intro k
     induction k with
     | zero=>rfl
     | succ k ih=>rw [List.replicate_succ,List.flatMap_cons,ih,he];rfl
    rw [this]
    simp⟩)
theorem Ef.ent {op:Op} {L' : List HP} {post:Value→List HP→Prop} (h:Ent L L') (k:Ef P L' env op ty post):Ef P L env op ty post:=fun θ R a w o next Q ha s h1 h2 hn=>k θ R a w o next Q ha (h θ R w s) h1 h2 hn
theorem vw {α:Type} [Inhabited α] {enc:α→List Value} {sz o:Nat} {e:α} {v:Value}:∀ {xs:List α} {j:Nat},(∀ x∈xs,(enc x).length=sz)→j<xs.length→o<sz→enc e=(enc xs[j]!).set o v→(xs.set j e).flatMap enc=(xs.flatMap enc).set (j*sz+o) v
 | [],j,_,hj,_,_=>by simp at hj
 | x::xs,0,h,_,ho,he=>by
  have hx:=h x (by simp)
  simp only [List.set_cons_zero,List.flatMap_cons,Nat.zero_mul,Nat.zero_add]
  rw [List.set_append,if_pos (by omega),he]
  simp
 | x::xs,j+1,h,hj,ho,he=>by
  have hx:=h x (by simp)
  simp only [List.set_cons_succ,List.flatMap_cons]
  have e1:¬((j+1)*sz+o<(enc x).length):=by rw [hx,Nat.succ_mul];omega
  rw [List.set_append,if_neg e1]
  have e2:(j+1)*sz+o - (enc x).length=j*sz+o:=by rw [hx,Nat.succ_mul];omega
  rw [e2,vw (fun y hy=>h y (by simp [hy])) (by simpa using hj) ho (by simpa using he)]
theorem Ef.f8 {t:TypeId} {x y:Operand} {ad:Option Addr} {sz j o E cap:Nat} {α:Type} [Inhabited α] {enc:α→List Value} {xs:List α} {Rest:List HP} {v:Value} (e:α) [ht:TyOne P t] [hp:PickOsl L ad α enc sz E cap xs Rest]
  (hx:evE env x=some (.pointer (elP ad sz j o))) (hy:evE env y=some v) (he:enc e=(enc xs[j]!).set o v) (h1:v.oneCell' = true) (hj:j<xs.length) (ho:o<sz) :
  Ef P L env (.store t x y) ty (fun _ L'=>L' = osl enc sz E ad cap (xs.set j e)::Rest) :=
 Ef.skip (fun θ R ρ w ea s dst pos af g=>by
  have s1:=s.perm (hp.perm.append_right R)
  obtain ⟨p1,p2,p3,p4⟩:=Sat.osl_parts s1
  rcases p4 with ⟨rfl,rfl⟩|⟨gb,cur,rfl,f1,f2,f3⟩
  ·omega
  ·have hb:w.heap[gb]? = some (.cells cur E (0,0)):=f3.own_heap
   have hlen:j*sz+o<xs.length*sz:=by
    have:(j+1)*sz≤xs.length*sz:=Nat.mul_le_mul_right _ hj
    rw [Nat.succ_mul] at this
    omega
   have hlt:j*sz+o<cur.size:=by
    have:=Nat.mul_le_mul_right sz p2
    omega
   have hel:∀ y∈xs.set j e,(enc y).length=sz:=by
    intro y hy'
    rcases List.mem_or_eq_of_mem_set hy' with h|h
    ·exact p1 y h
    ·subst h
     rw [he,List.length_set]
     exact p1 _ (by rw [List.getElem!_eq_getElem?_getD,List.getElem?_eq_getElem hj];exact List.getElem_mem _)
   have hcell:w.cell? ⟨gb,j*sz+o,none⟩=some cur[j*sz+o]:=by rw [cS hb];simp [hlt]
   have hfz:w.frozen? ⟨gb,j*sz+o,none⟩=false:=by simp [World.frozen?,hb]
   have hc1:v.cells=#[v]:=by cases v<;>first|rfl|cases h1
   refine ⟨w.setCell ⟨gb,j*sz+o,none⟩ v,_,?_,rfl,?_⟩
   ·have hx' : evE env x=some (.pointer (some ⟨gb,j*sz+o,none⟩)):=by rw [hx];simp only [elP,Option.map_some,dY]
    simp [execOp,ao ea hx',ao ea hy,Instr.storeAt,Instr.sureAddr,storeVar,TyOne.sizeOf_run,hc1,storeCells,Addr.add,run_store _ _ _ _ _ h1,hcell,hfz]
   ·have s3:Sat θ (own gb (.cells (cur.setIfInBounds (j*sz+o) v) E (0,0))::(Rest++R)) (w.setCell ⟨gb,j*sz+o,none⟩ v):=by
     refine Sat.update f3 ⟨s.1.tape,s.1.os,s.1.output,s.1.drawn⟩ ?_ (fun k x hk hx=>by rw [jG v hk];exact hx)
     rw [jW v hb]
    refine Sat.osl_mk (L:=Rest++R) s3 hel (by simpa using p2) p3 (by simpa using f1) ?_
    rw [vw p1 hj ho he,← f2]
    simp [List.take_set])
theorem Ef.e8 {t:TypeId} {x y:Operand} {ad:Option Addr} {j E cap:Nat} {k:IntKind} {n:Int} {xs:List Int} {Rest:List HP} [ht:TyOne P t] [hp:PickOsl L ad Int (encZ k) 1 E cap xs Rest]
  (hx:evE env x=some (.pointer (elP ad 1 j 0))) (hy:evE env y=some (.int k n)) (hj:j<xs.length) :
  Ef P L env (.store t x y) ty (fun _ L'=>L' = osl (encZ k) 1 E ad cap (xs.set j n)::Rest):=Ef.f8 n hx hy rfl rfl hj (by omega)
theorem Ev.j7 {s t:TypeId} {x:Operand} {k:IntKind} {a:Int} [hs:TyInt P s k] [ht:TyInt P t .i64] (hx:evE env x=some (.int k a)) (h0 : -9223372036854775808≤a) (h1:a≤9223372036854775807):Ev P L env (.convert s t x) ty (.int .i64 a):=by
 have:=Ev.conv (P:=P) (L:=L) (ty:=ty) (s:=s) (t:=t) hx
 rwa [IntWalk.i64_in a ⟨h0,h1⟩] at this
theorem Ev.l0 {s t:TypeId} {x:Operand} {k:IntKind} {a:Int} [hs:TyInt P s k] [ht:TyInt P t .u8] (hx:evE env x=some (.int k a)) (h0:0≤a) (h1:a≤255):Ev P L env (.convert s t x) ty (.int .u8 a):=by
 have:=Ev.conv (P:=P) (L:=L) (ty:=ty) (s:=s) (t:=t) hx
 rwa [IntWalk.u8_in a ⟨h0,h1⟩] at this
theorem Ev.j5 {s t:TypeId} {x:Operand} {k:IntKind} {a:Int} [hs:TyInt P s k] [ht:TyInt P t .u64] (hx:evE env x=some (.int k a)) (h0:0≤a) (h1:a≤18446744073709551615):Ev P L env (.convert s t x) ty (.int .u64 a):=by
 have:=Ev.conv (P:=P) (L:=L) (ty:=ty) (s:=s) (t:=t) hx
 rwa [IntWalk.u64_in a ⟨h0,h1⟩] at this
end
end Go.V
namespace Go.V
section
variable {P:Program} {N:Nat} {env:Env} {L:List HP} {K:Post} {ops:Array Oper} {rest:List Oper} {d i:Nat} {op:Op} {ty:TypeId} {pos:String} {af:Array Edge} {X:List HP} {f:Nat→Value} {g:Nat→List HP} {done:List Nat} {plan:List Stp} {pend:List PE}
theorem GO.a8 (he:Ef P L env op ty (fun _ L'=>L' = X)) (h:GO P N ops rest env X K):GO P N ops (⟨none,op,ty,pos,af,none⟩::rest) env L K:=GO.efu he (by rintro _ _ rfl;exact h)
theorem GO.efB (he:Ef P L env op ty (fun v L'=>∃ b,v=f b∧L' = g b)) (hd:d<N) (h:∀ b,GO P N ops rest ((d,f b)::env) (g b) K):GO P N ops (⟨some d,op,ty,pos,af,none⟩::rest) env L K:=GO.ef he hd (by rintro _ _ ⟨b,rfl,rfl⟩;exact h b)
theorem GPW.a7 (he:Ef P L env op ty (fun _ L'=>L' = X)) (h:GPK P N ops done i plan pend [] env X K):GPW P N ops done (.ef i) plan none op ty pend env L K:=GPW.efu he (by rintro _ _ rfl;exact h)
theorem GPW.efB (he:Ef P L env op ty (fun v L'=>∃ b,v=f b∧L' = g b)) (hd:d<N) (h:∀ b,GPK P N ops done i plan pend [] ((d,f b)::env) (g b) K):GPW P N ops done (.ef i) plan (some d) op ty pend env L K:=GPW.ef he hd (by rintro _ _ ⟨b,rfl,rfl⟩;exact h b)
end
structure Hid (ψ:Prop):Prop where
 out:ψ
theorem ah {φ:Prop} (h:φ:=by kernel_rfl):φ:=h
theorem ac {φ:Prop} (h:φ:=by decide):φ:=h
theorem ae {φ:Prop} (h:φ:=by repeat (first|exact Ent.refl _|exact Ent.nil _|refine Ent.j5 ?_|refine Ent.trans Ent.drop ?_)):φ:=h
theorem ai {φ:Prop} (h:φ:=by exact ResOk.tmps rfl):φ:=h
theorem ab {φ:Prop} (h:φ:=by omega):φ:=h
theorem aj {φ:Prop} (h:φ:=by repeat (first|exact EnvSub.nil _|refine EnvSub.cons rfl ?_)):φ:=h
theorem rf {φ:Prop} (h:φ:=by first|((with_reducible apply Ev.v6);exact Ev.move rfl)|((with_reducible apply Ev.p8);exact Ev.assign rfl)|((with_reducible apply Ev.u9);first|exact Ev.m8 rfl rfl|exact Ev.m7 rfl rfl)|((with_reducible apply Ev.n9);exact Ev.extract rfl rfl)|((with_reducible apply Ev.x0);exact Ev.nilCheck rfl)|((with_reducible apply Ev.j8);first|exact Ev.fieldAddr rfl|exact Ev.a8 rfl (by first|omega|exact Nat.le_of_ble_eq_true rfl)|exact Ev.f8 rfl)|((with_reducible apply Ev.n0);first|exact Ev.c6 rfl rfl|exact Ev.a6 rfl (by first|omega|exact Nat.le_of_ble_eq_true rfl) ac rfl|exact Ev.d8 rfl (by rfl)|exact Ev.k7 rfl (by first|omega|exact Nat.le_of_ble_eq_true rfl)|exact Ev.j0 rfl rfl)|((with_reducible apply Ev.e9);first|exact Ev.indexAddr rfl rfl ab (by first|omega|exact Nat.le_of_ble_eq_true rfl) (by first|omega|exact Nat.le_of_ble_eq_true rfl)|exact Ev.c8 rfl rfl ab ab|exact Ev.k8 rfl rfl ab ab|exact Ev.l6 rfl rfl (by first|omega|exact Nat.le_of_ble_eq_true rfl) ab ab)|((with_reducible apply Ev.p7);exact Ev.m9 rfl rfl ab ab)|((with_reducible apply Ev.x5);first|exact Ev.eql rfl rfl|exact Ev.neq rfl rfl|exact Ev.lss rfl rfl|exact Ev.leq rfl rfl|exact Ev.gtr rfl rfl|exact Ev.geq rfl rfl|exact Ev.add rfl rfl ab ab|exact Ev.sub rfl rfl ab ab|exact Ev.mul rfl rfl ab ab|exact Ev.quo rfl rfl ab ab ab|exact Ev.x7 rfl rfl ab ab ab|exact Ev.rem rfl rfl ab ab|exact Ev.x6 rfl rfl ab|exact Ev.u6 rfl rfl|exact Ev.r9 rfl rfl|exact Ev.o9 rfl rfl|exact Ev.w5 rfl rfl|exact Ev.r6 rfl rfl|exact Ev.r5 rfl rfl|exact Ev.u0 rfl rfl|exact Ev.r8 rfl rfl|exact Ev.w9 rfl rfl (by rfl) (by rfl)|exact Ev.m0 rfl rfl (by rfl) (by rfl))|((with_reducible apply Ev.y7);first|exact Ev.x9 rfl|exact Ev.y6 rfl|exact Ev.not rfl|exact Ev.o0 rfl|exact Ev.neg rfl ab ab)|((with_reducible apply Ev.l5);first|exact Ev.j7 rfl ab ab|exact Ev.l0 rfl ab ab|exact Ev.j5 rfl ab ab|exact Ev.conv rfl|exact Ev.j6 rfl (by first|rfl|omega|(simp;first|done|omega)))|((with_reducible apply Ev.q7);first|exact Ev.build rfl rfl|exact Ev.u7 rfl rfl)|((with_reducible apply Ev.v7);exact Ev.makeFunc rfl rfl)|((with_reducible apply Ev.q6);first|exact Ev.l9 rfl rfl ab ab|exact Ev.k6 rfl rfl ab ab|exact Ev.o8 rfl rfl rfl ab ab ab|exact Ev.g7 rfl rfl rfl ab ab ab)|((with_reducible apply Ev.v8);first|exact Ev.w8 rfl|exact Ev.t7 rfl|exact Ev.min2 rfl rfl|exact Ev.max2 rfl rfl)):φ:=h
theorem re {φ:Prop} (h:φ:=by first|((with_reducible apply Ev.v6);exact Ev.move rfl)|((with_reducible apply Ev.p8);exact Ev.assign rfl)|((with_reducible apply Ev.u9);first|exact Ev.m8 rfl rfl|exact Ev.m7 rfl rfl)|((with_reducible apply Ev.n9);exact Ev.extract rfl rfl)|((with_reducible apply Ev.x0);exact Ev.nilCheck rfl)|((with_reducible apply Ev.p7);exact Ev.m9 rfl rfl ab ab)|((with_reducible apply Ev.x5);first|exact Ev.eql rfl rfl|exact Ev.neq rfl rfl|exact Ev.lss rfl rfl|exact Ev.leq rfl rfl|exact Ev.gtr rfl rfl|exact Ev.geq rfl rfl|exact Ev.add rfl rfl ab ab|exact Ev.sub rfl rfl ab ab|exact Ev.mul rfl rfl ab ab|exact Ev.quo rfl rfl ab ab ab|exact Ev.x7 rfl rfl ab ab ab|exact Ev.rem rfl rfl ab ab|exact Ev.x6 rfl rfl ab|exact Ev.u6 rfl rfl|exact Ev.r9 rfl rfl|exact Ev.o9 rfl rfl|exact Ev.w5 rfl rfl|exact Ev.r6 rfl rfl|exact Ev.r5 rfl rfl|exact Ev.u0 rfl rfl|exact Ev.r8 rfl rfl|exact Ev.w9 rfl rfl (by rfl) (by rfl)|exact Ev.m0 rfl rfl (by rfl) (by rfl))|((with_reducible apply Ev.y7);first|exact Ev.x9 rfl|exact Ev.y6 rfl|exact Ev.not rfl|exact Ev.o0 rfl|exact Ev.neg rfl ab ab)|((with_reducible apply Ev.q7);first|exact Ev.build rfl rfl|exact Ev.u7 rfl rfl)|((with_reducible apply Ev.v7);exact Ev.makeFunc rfl rfl)|((with_reducible apply Ev.q6);first|exact Ev.l9 rfl rfl ab ab|exact Ev.k6 rfl rfl ab ab|exact Ev.o8 rfl rfl rfl ab ab ab|exact Ev.g7 rfl rfl rfl ab ab ab)|((with_reducible apply Ev.v8);first|exact Ev.w8 rfl|exact Ev.t7 rfl|exact Ev.min2 rfl rfl|exact Ev.max2 rfl rfl)|((with_reducible apply Ev.j8);first|exact Ev.fieldAddr rfl|exact Ev.a8 rfl (by first|omega|exact Nat.le_of_ble_eq_true rfl)|exact Ev.f8 rfl)|((with_reducible apply Ev.l5);first|exact Ev.j7 rfl ab ab|exact Ev.l0 rfl ab ab|exact Ev.j5 rfl ab ab|exact Ev.conv rfl|exact Ev.j6 rfl (by first|rfl|omega|(simp;first|done|omega)))):φ:=h
theorem rc {φ:Prop} (h:φ:=by first|((with_reducible apply Ev.n0);first|exact Ev.c6 rfl rfl|exact Ev.a6 rfl (by first|omega|exact Nat.le_of_ble_eq_true rfl) ac rfl|exact Ev.d8 rfl (by rfl)|exact Ev.k7 rfl (by first|omega|exact Nat.le_of_ble_eq_true rfl)|exact Ev.j0 rfl rfl)|((with_reducible apply Ev.e9);first|exact Ev.indexAddr rfl rfl ab (by first|omega|exact Nat.le_of_ble_eq_true rfl) (by first|omega|exact Nat.le_of_ble_eq_true rfl)|exact Ev.k8 rfl rfl ab ab|exact Ev.l6 rfl rfl (by first|omega|exact Nat.le_of_ble_eq_true rfl) ab ab)|((with_reducible apply Ev.j8);first|exact Ev.fieldAddr rfl|exact Ev.a8 rfl (by first|omega|exact Nat.le_of_ble_eq_true rfl)|exact Ev.f8 rfl)|((with_reducible apply Ev.l5);first|exact Ev.j7 rfl ab ab|exact Ev.l0 rfl ab ab|exact Ev.j5 rfl ab ab|exact Ev.conv rfl|exact Ev.j6 rfl (by first|rfl|omega|(simp;first|done|omega)))):φ:=h
theorem ra {φ:Prop} (h:φ:=by first|((with_reducible apply Ev.n0);first|exact Ev.c6 rfl rfl|exact Ev.a6 rfl (by first|omega|exact Nat.le_of_ble_eq_true rfl) ac rfl|exact Ev.d8 rfl (by rfl)|exact Ev.k7 rfl (by first|omega|exact Nat.le_of_ble_eq_true rfl)|exact Ev.j0 rfl rfl)|((with_reducible apply Ev.e9);first|exact Ev.indexAddr rfl rfl ab (by first|omega|exact Nat.le_of_ble_eq_true rfl) (by first|omega|exact Nat.le_of_ble_eq_true rfl)|exact Ev.c8 rfl rfl ab ab|exact Ev.k8 rfl rfl ab ab|exact Ev.l6 rfl rfl (by first|omega|exact Nat.le_of_ble_eq_true rfl) ab ab)|((with_reducible apply Ev.j8);first|exact Ev.fieldAddr rfl|exact Ev.a8 rfl (by first|omega|exact Nat.le_of_ble_eq_true rfl)|exact Ev.f8 rfl)|((with_reducible apply Ev.l5);first|exact Ev.j7 rfl ab ab|exact Ev.l0 rfl ab ab|exact Ev.j5 rfl ab ab|exact Ev.conv rfl|exact Ev.j6 rfl (by first|rfl|omega|(simp;first|done|omega)))):φ:=h
theorem run {φ ψ:Prop} (k:ψ) (h:Hid ψ→φ:=by intro k;repeat1' (first|((with_reducible apply GO.a6);first|refine GO.ev rf ac ?_|refine GO.efB (Ef.g6 rfl) ac ?_|refine GO.efB (Ef.g8 rfl rfl) ac ?_|refine GO.efB (Ef.alloc) ac ?_|refine GO.efB (Ef.lit rfl rfl ac rfl) ac ?_)|((with_reducible apply GO.d8);first|refine GO.d9 rfl rfl ac ?_|refine GO.e7 rfl rfl ac ?_|refine GO.c8 rfl rfl ac ?_)|with_reducible apply GO.nil|((with_reducible apply GO.e8);first|refine GO.a8 (Ef.e8 rfl rfl (by first|omega|exact Nat.le_of_ble_eq_true rfl)) ?_|refine GO.a8 (Ef.e7 rfl rfl rfl rfl) ?_|refine GO.a8 (Ef.c9 rfl rfl (by rfl) (by rfl) (by first|exact EncC.one _|simp [Value.oneCell'])) ?_|refine GO.a8 (Ef.c8 rfl rfl (by rfl) rfl (by first|exact EncC.one _|simp [Value.oneCell'])) ?_)|((with_reducible apply GP.c7);first|refine GP.go rfl ?_|refine GP.a8 rfl rfl rfl ac ?_|refine GP.c6 rfl rfl rfl ac ?_|refine GP.a7 rfl rfl rfl ac ?_)|((with_reducible apply GPW.c8);first|refine GPW.evP re ac ?_|refine GPW.evL rc ac ?_|refine GPW.evP (by ((with_reducible apply Ev.e9);exact Ev.c8 rfl rfl ab ab)) ac ?_)|with_reducible apply GP.nil|((with_reducible apply GPW.a6);first|refine GPW.efB (Ef.g6 rfl) ac ?_|refine GPW.efB (Ef.g8 rfl rfl) ac ?_|refine GPW.efB (Ef.alloc) ac ?_|refine GPW.efB (Ef.lit rfl rfl ac rfl) ac ?_)|((with_reducible apply GPW.c7);first|refine GPW.a7 (Ef.e8 rfl rfl (by first|omega|exact Nat.le_of_ble_eq_true rfl)) ?_|refine GPW.a7 (Ef.e7 rfl rfl rfl rfl) ?_|refine GPW.a7 (Ef.c9 rfl rfl (by rfl) (by rfl) (by first|exact EncC.one _|simp [Value.oneCell'])) ?_|refine GPW.a7 (Ef.c8 rfl rfl (by rfl) rfl (by first|exact EncC.one _|simp [Value.oneCell'])) ?_)|with_reducible apply GPK.nil|((with_reducible apply GPK.a6);first|refine GPK.drop rfl ?_|refine GPK.keep ra ?_)|with_reducible apply CB.tt|with_reducible apply CB.ff|with_reducible refine CB.pos ab ?_|with_reducible refine CB.neg ab ?_|with_reducible refine CB.pos (by simp;first|done|omega) ?_|with_reducible refine CB.neg (by simp;first|done|omega) ?_|with_reducible apply GB.tt|with_reducible apply GB.ff|with_reducible refine GB.pos ab ?_|with_reducible refine GB.neg ab ?_|with_reducible refine GB.pos (by simp;first|done|omega) ?_|with_reducible refine GB.neg (by simp;first|done|omega) ?_|with_reducible refine KX.e9 ?_|with_reducible refine KX.c9 ?_|with_reducible refine KX.e7 ?_|with_reducible refine KX.e8 ?_|with_reducible refine KX.d7 ?_|with_reducible refine KX.d8 ?_|with_reducible refine KX.a7 ?_|with_reducible refine KX.c8 ac ?_|with_reducible apply G.seq|with_reducible apply G.block|with_reducible apply G.region|with_reducible apply G.skip|with_reducible apply G.exit|with_reducible apply G.ret|refine G.cond rfl ?_);exact Hid.out k):φ:=h ⟨k⟩
theorem runS {φ ψ:Prop} (k:ψ) (h:Hid ψ→φ:=by intro k;repeat1' (first|((with_reducible apply GO.a6);first|refine GO.ev rf ac ?_|refine GO.efB (Ef.g6 rfl) ac ?_|refine GO.efB (Ef.g8 rfl rfl) ac ?_|refine GO.efB (Ef.alloc) ac ?_|refine GO.efB (Ef.lit rfl rfl ac rfl) ac ?_)|((with_reducible apply GO.d8);first|refine GO.d9 rfl rfl ac ?_|refine GO.e7 rfl rfl ac ?_|refine GO.c8 rfl rfl ac ?_)|with_reducible apply GO.nil|((with_reducible apply GO.e8);first|refine GO.a8 (Ef.e8 rfl rfl (by first|omega|exact Nat.le_of_ble_eq_true rfl)) ?_|refine GO.a8 (Ef.e7 rfl rfl rfl rfl) ?_|refine GO.a8 (Ef.c9 rfl rfl (by rfl) (by rfl) (by first|exact EncC.one _|simp [Value.oneCell'])) ?_|refine GO.a8 (Ef.c8 rfl rfl (by rfl) rfl (by first|exact EncC.one _|simp [Value.oneCell'])) ?_)|((with_reducible apply GP.c7);first|refine GP.go rfl ?_|refine GP.a8 rfl rfl rfl ac ?_|refine GP.c6 rfl rfl rfl ac ?_|refine GP.a7 rfl rfl rfl ac ?_)|((with_reducible apply GPW.c8);first|refine GPW.evP re ac ?_|refine GPW.evL rc ac ?_|refine GPW.evP (by ((with_reducible apply Ev.e9);exact Ev.c8 rfl rfl ab ab)) ac ?_)|with_reducible apply GP.nil|((with_reducible apply GPW.a6);first|refine GPW.efB (Ef.g6 rfl) ac ?_|refine GPW.efB (Ef.g8 rfl rfl) ac ?_|refine GPW.efB (Ef.alloc) ac ?_|refine GPW.efB (Ef.lit rfl rfl ac rfl) ac ?_)|((with_reducible apply GPW.c7);first|refine GPW.a7 (Ef.e8 rfl rfl (by first|omega|exact Nat.le_of_ble_eq_true rfl)) ?_|refine GPW.a7 (Ef.e7 rfl rfl rfl rfl) ?_|refine GPW.a7 (Ef.c9 rfl rfl (by rfl) (by rfl) (by first|exact EncC.one _|simp [Value.oneCell'])) ?_|refine GPW.a7 (Ef.c8 rfl rfl (by rfl) rfl (by first|exact EncC.one _|simp [Value.oneCell'])) ?_)|with_reducible apply GPK.nil|((with_reducible apply GPK.a6);first|refine GPK.drop rfl ?_|refine GPK.keep ra ?_)|with_reducible apply CB.tt|with_reducible apply CB.ff|with_reducible refine CB.pos ab ?_|with_reducible refine CB.neg ab ?_|with_reducible refine CB.pos (by simp;first|done|omega) ?_|with_reducible refine CB.neg (by simp;first|done|omega) ?_|with_reducible apply GB.tt|with_reducible apply GB.ff|with_reducible refine GB.pos ab ?_|with_reducible refine GB.neg ab ?_|with_reducible refine GB.pos (by simp;first|done|omega) ?_|with_reducible refine GB.neg (by simp;first|done|omega) ?_|with_reducible refine KX.e9 ?_|with_reducible refine KX.c9 ?_|with_reducible refine KX.e7 ?_|with_reducible refine KX.e8 ?_|with_reducible refine KX.d7 ?_|with_reducible refine KX.d8 ?_|with_reducible refine KX.a7 ?_|with_reducible refine KX.c8 ac ?_|with_reducible apply G.block|with_reducible apply G.region|with_reducible apply G.skip|with_reducible apply G.exit|with_reducible apply G.ret|refine G.cond rfl ?_);exact Hid.out k):φ:=h ⟨k⟩
end Go.V
