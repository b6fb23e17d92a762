/- The logic of heaps: assertions about owned and immutable blocks, and judgements about code and operations. Holds for any program; no condition. -/
import Derived.WalkKit
import Derived.Orders
import Derived.Deep.LoopGhost
import Derived.OrdersIn
import Derived.TacticsIn
import Derived.RangeFuncLeaves
set_option linter.all false
namespace Go.V
abbrev LV:=List Value
abbrev OA:=Option Addr
abbrev Hp:=Nat→Option Obj
def Hp.sub(a b:Hp):Prop:=∀k o,a k=some o→b k=some o
def Hp.disj(a b:Hp):Prop:=∀k o,a k=some o→b k=none
def Hp.c8(a b:Hp):Hp:=fun k=>(a k).or (b k)
def Hp.emp:Hp:=fun _=>none
def Hp.sub.refl(a:Hp):Hp.sub a a:=fun _ _ h=>h
def Hp.sub.trans{a b c:Hp}(h:Hp.sub a b)(k:Hp.sub b c):Hp.sub a c:=fun i o x=>k i o (h i o x)
def Hp.disj.symm{a b:Hp}(h:Hp.disj a b):Hp.disj b a:=by
 intro k o hb;cases ha:a k with
 | none=>rfl
 | some x=>have:=h k x ha;rw[hb] at this;cases this
def Hp.disj.mono{a b a' b' : Hp}(h:Hp.disj a b)(ha:Hp.sub a' a)(hb:Hp.sub b' b):Hp.disj a' b':=by
 intro k o x;have h1:=h k o (ha k o x);cases hk:b' k with
 | none=>rfl
 | some y=>have:=hb k y hk;rw[h1] at this;cases this
def Hp.c7(a:Hp):Hp.disj Hp.emp a:=fun _ _ h=>by cases h
def Hp.a8(a:Hp):Hp.sub Hp.emp a:=fun _ _ h=>by cases h
def Hp.d7(a b:Hp):Hp.sub a (Hp.c8 a b):=fun k o h=>by simp[Hp.c8,h]
def Hp.c9{a b:Hp}(h:Hp.disj a b):Hp.sub b (Hp.c8 a b):=fun k o hk=>by
 have:=h.symm k o hk
 simp[Hp.c8,this,hk]
def Hp.d9{a b c:Hp}(h:Hp.sub a c)(h' : Hp.sub b c):Hp.sub (Hp.c8 a b) c:=by
 intro k o hk;unfold Hp.c8 at hk;cases ha:a k with
 | none=>rw[ha] at hk;exact h' k o (by simpa using hk)
 | some x=>rw[ha] at hk;simp at hk;subst hk;exact h k x ha
def Hp.d8{a b c:Hp}(h:Hp.disj a b)(h' : Hp.disj a c):Hp.disj a (Hp.c8 b c):=by
 intro k o hk;simp[Hp.c8,h k o hk,h' k o hk]
abbrev HP:=Hp→Hp→Prop
abbrev LH:=List HP
def Stars:LH→Hp→Hp→Prop
 | [],_,_=>True
 | p::L,ι,h=>∃ι₀ h₁ h₂,Hp.sub ι₀ ι∧Hp.disj h₁ h₂∧Hp.sub h₁ h∧Hp.sub h₂ h∧p ι₀ h₁∧Stars L ι h₂
def Stars.mono{L:LH}{ι ι' h h' : Hp}(hi:Hp.sub ι ι')(hh:Hp.sub h h')(s:Stars L ι h):Stars L ι' h':=by
 induction L generalizing h h' with
 | nil=>trivial
 | cons p L ih =>
  obtain⟨ι₀,h₁,h₂,a,b,c,d,e,f⟩:=s;exact⟨ι₀,h₁,h₂,a.trans hi,b,c.trans hh,d.trans hh,e,ih (Hp.sub.refl _) f⟩
def Stars.swap{p q:HP}{L:LH}{ι h:Hp}(s:Stars (p::q::L) ι h):Stars (q::p::L) ι h:=by
 obtain⟨ι₁,h₁,h₂,a1,b1,c1,d1,e1,ι₂,h₃,h₄,a2,b2,c2,d2,e2,f2⟩:=s;have a0:Hp.disj h₁ h₄:=b1.mono (Hp.sub.refl _) d2;refine⟨ι₂,h₃,Hp.c8 h₁ h₄,a2,Hp.d8 (b1.mono (Hp.sub.refl _) c2).symm b2,c2.trans d1,Hp.d9 c1 (d2.trans d1),e2,?_⟩;exact⟨ι₁,h₁,h₄,a1,a0,Hp.d7 _ _,Hp.c9 a0,e1,f2⟩
def Stars.perm{L L' : LH}(hp:L.Perm L'):∀{ι h:Hp},Stars L ι h→Stars L' ι h:=by
 induction hp with
 | nil=>exact fun s=>s
 | cons p _ ih=>exact fun⟨ι₀,h₁,h₂,a,b,c,d,e,f⟩=>⟨ι₀,h₁,h₂,a,b,c,d,e,ih f⟩
 | swap p q l=>exact fun s=>s.swap
 | trans _ _ ih1 ih2=>exact fun s=>ih2 (ih1 s)
def Stars.split{A B:LH}{ι h:Hp}(s:Stars (A++B) ι h):∃h₁ h₂,Hp.disj h₁ h₂∧Hp.sub h₁ h∧Hp.sub h₂ h∧Stars A ι h₁∧Stars B ι h₂:=by
 induction A generalizing h with
 | nil=>exact⟨Hp.emp,h,Hp.c7 _,Hp.a8 _,Hp.sub.refl _,trivial,s⟩
 | cons p A ih =>
  obtain⟨ι₀,x₁,x₂,a,b,c,d,e,f⟩:=s;obtain⟨y₁,y₂,g1,g2,g3,g4,g5⟩:=ih f;have h1:Hp.disj x₁ y₁:=b.mono (Hp.sub.refl _) g2;refine⟨Hp.c8 x₁ y₁,y₂,(Hp.d8 (b.mono (Hp.sub.refl _) g3).symm g1.symm).symm,Hp.d9 c (g2.trans d),g3.trans d,?_,g5⟩;exact⟨ι₀,x₁,y₁,a,h1,Hp.d7 _ _,Hp.c9 h1,e,g4⟩
def Stars.a8{A B:LH}{ι h h₁ h₂:Hp}(hd:Hp.disj h₁ h₂)(s1:Hp.sub h₁ h)(s2:Hp.sub h₂ h)(a:Stars A ι h₁)(b:Stars B ι h₂):Stars (A++B) ι h:=by
 induction A generalizing h h₁ with
 | nil=>exact b.mono (Hp.sub.refl _) s2
 | cons p A ih =>
  obtain⟨ι₀,x₁,x₂,a1,b1,c1,d1,e1,f1⟩:=a;have a0:Hp.disj x₂ h₂:=hd.mono d1 (Hp.sub.refl _);refine⟨ι₀,x₁,Hp.c8 x₂ h₂,a1,Hp.d8 b1 (hd.mono c1 (Hp.sub.refl _)),c1.trans s1,Hp.d9 (d1.trans s1) s2,e1,?_⟩;exact ih a0 (Hp.d7 _ _) (Hp.c9 a0) f1
structure Th where
 tape:Nat→Question→Nat
 os:Os
 output:Array (Nat×ByteArray)
 lo:Nat
structure Th.ok (θ:Th) (w:World):Prop where
 tape:w.tape=θ.tape
 os:w.os=θ.os
 output:w.output=θ.output
 drawn:θ.lo≤w.drawn
def Gg{α:Type}:∀(m:Ask α) (w:World),w.drawn≤(w.ask m).2.drawn:=by
 intro m;induction m with
 | done a=>intro w;exact Nat.le_refl _
 | ask what range k ih =>
  intro w;simp only[World.ask];split
  ·exact ih _ w
  ·exact Nat.le_trans (Nat.le_succ _) (ih _ { w with drawn:=w.drawn+1 })
def sS{p:Program}{w w' : World}{at_:Addr}{u:TypeId}{k:Addr}{v:Value}{a0:Bool}{l:List Addr}(h:w.viewStore p at_ u k v a0=.ok (w',l)):w'.drawn=w.drawn:=by
 simp only[World.viewStore,bind,Except.bind,pure,Except.pure,throw,throwThe,MonadExceptOf.throw] at h;repeat' (split at h)
 all_goals first|(simp only[Except.ok.injEq,Prod.mk.injEq] at h;obtain⟨rfl,_⟩:=h;rfl)|cases h
def lT{α:Type}{P:Program}:∀(m:Sem α) {w w' : World} {x:α},m.run P w=.ok x w'→w.drawn≤w'.drawn:=by
 intro m;induction m with
 | pure a=>intro w w' x h;simp only[Sem.run,Result.ok.injEq] at h;obtain⟨_,rfl⟩:=h;exact Nat.le_refl _
 | load m a k ih =>
  intro w w' x h;simp only[Sem.run] at h;split at h
  ·exact ih _ h
  ·split at h
   ·exact ih _ h
   ·cases h
 | store m a v k ih =>
  intro w w' x h
  have go:(match w.cell? a with
    | some _ => if w.frozen? a then .halt (.unsupported (.unsafePointer "a write to bytes that a string shares")) w else k.run P (w.setCell a v)
    | none=>match w.farStore P a v (m == .atomic) with
     | .ok (w,_)=>k.run P w
     | .error h=>.halt h w)=Result.ok x w'→w.drawn≤w'.drawn:=by
   intro h;split at h
   ·split at h
    ·cases h
    ·exact ih (w:=w.setCell a v) h
   ·split at h
    ·rename_i h2;unfold World.farStore at h2;split at h2
     ·split at h2
      ·rename_i h3;cases h2;have:=sS h3
       have:=ih h
       omega
      ·cases h2
     ·cases h2
    ·cases h
  cases v;all_goals first|exact go h|(simp only[Sem.run] at h;cases h)
 | new o k ih=>intro w w' x h;exact ih _ (w:={ w with heap:=w.heap.push o }) h
 | shape r k ih=>intro w w' x h;exact ih _ h
 | freeze a n k ih =>
  intro w w' x h;have h1:=ih (w:=w.freeze a n) h;have h2:(w.freeze a n).drawn=w.drawn:=by unfold World.freeze;split<;>rfl
  omega
 | frozen a k ih=>intro w w' x h;exact ih _ h
 | getObj r k ih =>
  intro w w' x h;simp only[Sem.run] at h;split at h
  ·cases h
  ·exact ih _ h
  ·cases h
 | setObj r o k ih =>
  intro w w' x h;simp only[Sem.run] at h;split at h
  ·cases h
  ·exact ih (w:={ w with heap:=w.heap.setIfInBounds r o }) h
  ·cases h
 | choose q k ih =>
  intro w w' x h;simp only[Sem.run] at h;split at h
  ·exact ih _ h
  ·exact Nat.le_trans (Nat.le_succ _) (ih _ h)
 | sys c k ih =>
  intro w w' x h;simp only[Sem.run] at h;have h1:=ih _ h;refine Nat.le_trans ?_ h1;unfold World.sys;have h2:=Gg (Kernel.perform c w.os) w;split
  ·exact Nat.le_refl _
  ·rename_i heq;rw[heq] at h2;exact h2
 | program k ih=>intro w w' x h;exact ih _ h
 | mark m k ih=>intro w w' x h;exact ih h
 | halt h=>intro w w' x h;cases h
def im(w:World):Hp:=fun k=>w.heap[k]?
def Sat(θ:Th)(L:LH)(w:World):Prop :=
 θ.ok w∧∃ι h,Hp.disj ι h∧Hp.sub ι (im w)∧Hp.sub h (im w)∧Stars L ι h
def Sat.perm{θ:Th}{L L' : LH}{w:World}(s:Sat θ L w)(hp:L.Perm L'):Sat θ L' w :=
 let ⟨h0,ι,h,a,b,c,d⟩:=s;⟨h0,ι,h,a,b,c,d.perm hp⟩
def Sat.tail{θ:Th}{p:HP}{L:LH}{w:World}(s:Sat θ (p::L) w):Sat θ L w :=
 let ⟨h0,ι,h,a,b,c,_,_,_,_,_,_,x,_,y⟩:=s;⟨h0,ι,h,a,b,c,y.mono (Hp.sub.refl _) x⟩
def Sat.keep{θ:Th}{L:LH}{w w' : World}(s:Sat θ L w)(ok:θ.ok w')(hk:∀(k:Nat) (o:Obj),w.heap[k]? = some o→w'.heap[k]? = some o):Sat θ L w' :=
 let ⟨_,ι,h,a,b,c,d⟩:=s;⟨ok,ι,h,a,fun k o x=>hk k o (b k o x),fun k o x=>hk k o (c k o x),d⟩
def Sat.drew{θ:Th}{L:LH}{w:World}(s:Sat θ L w):Sat θ L { w with drawn:=w.drawn+1 } :=
 s.keep ⟨s.1.tape,s.1.os,s.1.output,Nat.le_succ_of_le s.1.drawn⟩ (fun _ _ h=>h)
def own(b:Nat)(o:Obj):HP:=fun _ h=>h b=some o
def imm(b:Nat)(o:Obj):HP:=fun ι _=>ι b=some o
def cY(φ:Prop):HP:=fun _ _=>φ
def hex{α:Type}(f:α→HP):HP:=fun ι h=>∃x,f x ι h
def cm(L:LH):HP:=fun ι h=>Stars L ι h
def Sat.own_heap{θ:Th}{b:Nat}{o:Obj}{L:LH}{w:World}(s:Sat θ (own b o::L) w):w.heap[b]? = some o:=by
 obtain⟨_,ι,h,a,b1,c,ι₀,h₁,h₂,d1,d2,d3,d4,d5,d6⟩:=s;exact c b o (d3 b o d5)
def Sat.update{θ:Th}{b:Nat}{o o' : Obj}{L:LH}{w w' : World}(s:Sat θ (own b o::L) w)(ok:θ.ok w')
  (hb:w'.heap[b]? = some o') (hk:∀(k:Nat) (x:Obj),k≠b→w.heap[k]? = some x→w'.heap[k]? = some x):Sat θ (own b o'::L) w':=by
 obtain⟨_,ι,h,a,b1,c,ι₀,h₁,h₂,d1,d2,d3,d4,d5,d6⟩:=s;have a3:h b=some o:=d3 b o d5;have a2:ι b=none:=a.symm b o a3;have a1:h₂ b=none:=d2 b o d5;refine⟨ok,ι,fun k=>if k=b then some o' else h₂ k,?_,?_,?_,ι₀,fun k=>if k=b then some o' else none,h₂,d1,?_,?_,?_,by simp[own],d6⟩
 ·intro k x hx;by_cases a0:k=b
  ·subst a0;rw[a2] at hx;cases hx
  ·simp only[a0,if_false];exact(a.mono (Hp.sub.refl _) d4) k x hx
 ·intro k x hx;by_cases a0:k=b
  ·subst a0;rw[a2] at hx;cases hx
  ·exact hk k x a0 (b1 k x hx)
 ·intro k x hx;by_cases a0:k=b
  ·subst a0;simp at hx;subst hx;exact hb
  ·simp only[a0,if_false] at hx;exact hk k x a0 (c k x (d4 k x hx))
 ·intro k x hx;by_cases a0:k=b
  ·subst a0;exact a1
  ·simp[a0] at hx
 ·intro k x hx;by_cases a0:k=b
  ·simpa [a0] using hx
  ·simp[a0] at hx
 ·intro k x hx;by_cases a0:k=b
  ·subst a0;rw[a1] at hx;cases hx
  ·simpa [a0] using hx
def Sat.fresh{θ:Th}{b:Nat}{o:Obj}{L:LH}{w w' : World}(s:Sat θ L w)(ok:θ.ok w')(hn:w.heap.size≤b)
  (hb:w'.heap[b]? = some o) (hk:∀(k:Nat) (x:Obj),w.heap[k]? = some x→w'.heap[k]? = some x):Sat θ (own b o::L) w':=by
 obtain⟨_,ι,h,a,b1,c,d⟩:=s
 have a1:∀g:Hp,Hp.sub g (im w)→g b=none:=fun g hg=>by
  cases hx:g b with
  | none=>rfl
  | some x =>
   have h1:w.heap[b]? = some x:=hg b x hx;rw[Array.getElem?_eq_none hn] at h1;cases h1
 have hi:=a1 ι b1;have hh:=a1 h c;refine⟨ok,ι,fun k=>if k=b then some o else h k,?_,fun k x hx=>hk k x (b1 k x hx),?_,Hp.emp,fun k=>if k=b then some o else none,h,Hp.a8 _,?_,?_,?_,by simp[own],d⟩
 ·intro k x hx;by_cases a0:k=b
  ·subst a0;rw[hi] at hx;cases hx
  ·simp only[a0,if_false];exact a k x hx
 ·intro k x hx;by_cases a0:k=b
  ·subst a0;simp at hx;subst hx;exact hb
  ·simp only[a0,if_false] at hx;exact hk k x (c k x hx)
 ·intro k x hx;by_cases a0:k=b
  ·subst a0;exact hh
  ·simp[a0] at hx
 ·intro k x hx;by_cases a0:k=b
  ·simpa [a0] using hx
  ·simp[a0] at hx
 ·intro k x hx;by_cases a0:k=b
  ·subst a0;rw[hh] at hx;cases hx
  ·simpa [a0] using hx
def Sat.alloc{θ:Th}{o:Obj}{L:LH}{w:World}(s:Sat θ L w):Sat θ (own w.heap.size o::L) (w.alloc o) :=
 s.fresh ⟨s.1.tape,s.1.os,s.1.output,s.1.drawn⟩ (Nat.le_refl _) (heap_alloc_new w o) (fun k x hx=>by
  rw[heap_alloc_old w o (Array.getElem?_eq_some_iff.1 hx).1];exact hx)
def Sat.freeze{θ:Th}{b:Nat}{o:Obj}{L:LH}{w:World}(s:Sat θ (own b o::L) w):Sat θ (imm b o::L) w:=by
 obtain⟨ok,ι,h,a,b1,c,ι₀,h₁,h₂,d1,d2,d3,d4,d5,d6⟩:=s;have a1:h₂ b=none:=d2 b o d5;refine⟨ok,fun k=>if k=b then some o else ι k,h₂,?_,?_,d4.trans c,fun k=>if k=b then some o else none,Hp.emp,h₂,?_,Hp.c7 _,Hp.a8 _,Hp.sub.refl _,by simp[imm],d6.mono ?_ (Hp.sub.refl _)⟩
 ·intro k x hx;by_cases a0:k=b
  ·subst a0;exact a1
  ·simp only[a0,if_false] at hx;exact(a.mono (Hp.sub.refl _) d4) k x hx
 ·intro k x hx;by_cases a0:k=b
  ·subst a0;simp at hx;subst hx;exact c k o (d3 k o d5)
  ·simp only[a0,if_false] at hx;exact b1 k x hx
 ·intro k x hx;by_cases a0:k=b
  ·simpa [a0] using hx
  ·simp[a0] at hx
 ·intro k x hx;by_cases a0:k=b
  ·subst a0;have:=a k x hx
   rw[d3 k o d5] at this;cases this
  ·simpa [a0] using hx
def Sat.ofPure{θ:Th}{φ:Prop}{L:LH}{w:World}(s:Sat θ (cY φ::L) w):φ:=by
 obtain⟨_,ι,h,a,b1,c,ι₀,h₁,h₂,d1,d2,d3,d4,d5,d6⟩:=s;exact d5
def Sat.addPure{θ:Th}{φ:Prop}{L:LH}{w:World}(s:Sat θ L w)(h:φ):Sat θ (cY φ::L) w:=by
 obtain⟨ok,ι,h',a,b1,c,d⟩:=s;exact⟨ok,ι,h',a,b1,c,Hp.emp,Hp.emp,h',Hp.a8 _,Hp.c7 _,Hp.a8 _,Hp.sub.refl _,h,d⟩
def Sat.ofHex{θ:Th}{α:Type}{f:α→HP}{L:LH}{w:World}(s:Sat θ (hex f::L) w):∃x,Sat θ (f x::L) w:=by
 obtain⟨ok,ι,h,a,b1,c,ι₀,h₁,h₂,d1,d2,d3,d4,⟨x,d5⟩,d6⟩:=s;exact⟨x,ok,ι,h,a,b1,c,ι₀,h₁,h₂,d1,d2,d3,d4,d5,d6⟩
def Sat.d8{θ:Th}{α:Type}{f:α→HP}{L:LH}{w:World}(x:α)(s:Sat θ (f x::L) w):Sat θ (hex f::L) w:=by
 obtain⟨ok,ι,h,a,b1,c,ι₀,h₁,h₂,d1,d2,d3,d4,d5,d6⟩:=s;exact⟨ok,ι,h,a,b1,c,ι₀,h₁,h₂,d1,d2,d3,d4,⟨x,d5⟩,d6⟩
def Sat.ofStars{θ:Th}{A L:LH}{w:World}(s:Sat θ (cm A::L) w):Sat θ (A++L) w:=by
 obtain⟨ok,ι,h,a,b1,c,ι₀,h₁,h₂,d1,d2,d3,d4,d5,d6⟩:=s;exact⟨ok,ι,h,a,b1,c,Stars.a8 d2 d3 d4 (Stars.mono d1 (Hp.sub.refl _) d5) d6⟩
def Sat.a8{θ:Th}{A L:LH}{w:World}(s:Sat θ (A++L) w):Sat θ (cm A::L) w:=by
 obtain⟨ok,ι,h,a,b1,c,d⟩:=s;obtain⟨h₁,h₂,g1,g2,g3,g4,g5⟩:=d.split;exact⟨ok,ι,h,a,b1,c,ι,h₁,h₂,Hp.sub.refl _,g1,g2,g3,g4,g5⟩
def Pers(A:HP):Prop:=∀ι h,A ι h→A ι Hp.emp
def Sat.dup{θ:Th}{A:HP}(hA:Pers A){L:LH}{w:World}(s:Sat θ (A::L) w):Sat θ (A::A::L) w:=by
 obtain⟨ok,ι,h,a,b1,c,ι₀,h₁,h₂,d1,d2,d3,d4,d5,d6⟩:=s;exact⟨ok,ι,h,a,b1,c,ι₀,Hp.emp,h,d1,Hp.c7 _,Hp.a8 _,Hp.sub.refl _,hA _ _ d5,ι₀,h₁,h₂,d1,d2,d3,d4,d5,d6⟩
def Ent(L L' : LH):Prop:=∀θ R w,Sat θ (L++R) w→Sat θ (L'++R) w
def Ent.refl(L:LH):Ent L L:=fun _ _ _ h=>h
def Ent.trans{A B C:LH}(h:Ent A B)(k:Ent B C):Ent A C:=fun θ R w s=>k θ R w (h θ R w s)
def Ent.perm{L L' : LH}(h:L.Perm L'):Ent L L':=fun _ R _ s=>s.perm (h.append_right R)
def Ent.drop{p:HP}{L:LH}:Ent (p::L) L:=fun _ _ _ s=>s.tail
def Ent.cons{p:HP}{L L' : LH}(h:Ent L L'):Ent (p::L) (p::L'):=fun θ R w s =>
 ((h θ (p::R) w ((show Sat θ (p::(L++R)) w from s).perm List.perm_middle.symm)).perm List.perm_middle)
def Ent.append{A B C D:LH}(h:Ent A B)(k:Ent C D):Ent (A++C) (B++D):=by
 intro θ R w s;rw[List.append_assoc] at s ⊢;have s1:=h θ _ w s;have s2:Sat θ (C++(B++R)) w:=s1.perm (by rw[←List.append_assoc,←List.append_assoc];exact List.perm_append_comm.append_right R);have s3:=k θ _ w s2;exact s3.perm (by rw[←List.append_assoc,←List.append_assoc];exact List.perm_append_comm.append_right R)
def Ent.nil(L:LH):Ent L []:=by
 intro θ R w s;induction L with
 | nil=>exact s
 | cons p L ih=>exact ih s.tail
abbrev Env:=List (Nat×Value)
structure EnvOk (N:Nat) (env:Env) (a:Act):Prop where
 size:a.tmps.size=N
 at_:∀t v,env.lookup t=some v→a.tmps[t]? = some v
def evE(env:Env):Operand→Option Value
 | .tmp t=>env.lookup t
 | .const v=>some v
 | .global g=>some (.pointer (some ⟨g,0,none⟩))
 | .func f=>some (.func (.func f) #[] #[])
def Agr(env:Env)(ρ:Operand→Value):Prop:=∀x v,evE env x=some v→ρ x=v
def aL{env:Env}{ρ:Operand→Value}(h:Agr env ρ){x:Operand}{v:Value}(hx:evE env x=some v):ρ x=v:=h x v hx
def EnvOk.agr{N:Nat}{env:Env}{a:Act}(h:EnvOk N env a):Agr env a.eval:=by
 intro x v hx;cases x with
 | tmp t=>have:=h.at_ t v hx;simp[Act.eval,this]
 | const c=>simpa [evE,Act.eval] using hx
 | global g=>simpa [evE,Act.eval] using hx
 | func f=>simpa [evE,Act.eval] using hx
def fD(env:Env):List Operand→Option (LV)
 | []=>some []
 | x::r=>match evE env x,fD env r with
  | some v,some vs=>some (v::vs)
  | _,_=>none
def kH(env:Env):List (Nat×Operand)→Option (List (Nat×Value))
 | []=>some []
 | (i,x)::r=>match evE env x,kH env r with
  | some v,some vs=>some ((i,v)::vs)
  | _,_=>none
def Agr.list{env:Env}{ρ:Operand→Value}(h:Agr env ρ):∀(l:List Operand) (vs:LV),fD env l=some vs→l.map ρ=vs:=by
 intro l;induction l with
 | nil=>intro vs hv;simp[fD] at hv;simp[hv]
 | cons x l ih =>
  intro vs hv;simp only[fD] at hv;split at hv
  ·rename_i v us h1 h2;simp at hv;subst hv;simp[h x v h1,ih us h2]
  ·cases hv
def Agr.pairs{env:Env}{ρ:Operand→Value}(h:Agr env ρ):∀(l:List (Nat×Operand)) (vs:List (Nat×Value)),kH env l=some vs→l.map (fun p=>(p.1,ρ p.2))=vs:=by
 intro l;induction l with
 | nil=>intro vs hv;simp[kH] at hv;simp[hv]
 | cons x l ih =>
  intro vs hv;obtain⟨i,x⟩:=x;simp only[kH] at hv;split at hv
  ·rename_i v us h1 h2;simp at hv;subst hv;simp[h x v h1,ih us h2]
  ·cases hv
def EnvOk.put{N:Nat}{env:Env}{a:Act}(h:EnvOk N env a){d:Nat}(hd:d<N)(v:Value):EnvOk N ((d,v)::env) (a.put (some d) v):=by
 refine⟨by simp[Act.put,h.size],?_⟩;intro t u ht;simp only[List.lookup_cons] at ht;by_cases a0:t=d
 ·subst a0;simp at ht;subst ht;simp[Act.put,h.size,hd]
 ·have hb:(t == d)=false:=by simpa using a0
  simp only[hb] at ht;simp only[Act.put];rw[Array.getElem?_setIfInBounds_ne (Ne.symm a0)];exact h.at_ t u ht
def EnvSub(env a0 : Env):Prop:=∀t v,a0.lookup t=some v→env.lookup t=some v
def EnvOk.less{N:Nat}{env a0 : Env}{a:Act}(h:EnvOk N env a)(hs:EnvSub env a0):EnvOk N a0 a:=⟨h.size,fun t v x=>h.at_ t v (hs t v x)⟩
def EnvSub.refl(env:Env):EnvSub env env:=fun _ _ h=>h
def EnvSub.nil(env:Env):EnvSub env []:=fun _ _ h=>by cases h
def EnvSub.cons{env a0 : Env}{d:Nat}{v:Value}(h:env.lookup d=some v)(hs:EnvSub env a0):EnvSub env ((d,v)::a0):=by
 intro t u ht;simp only[List.lookup_cons] at ht;by_cases a1:t=d
 ·subst a1;simp at ht;subst ht;exact h
 ·have hb:(t == d)=false:=by simpa using a1
  simp only[hb] at ht;exact hs t u ht
abbrev Post:=Exit→Env→LH→Prop
def FW(r:Option Nat):Fence:={ Fence.wide with round:=r }
def mC{r:Option Nat}{n:Nat}{P:Program}{f:FuncId}{args:Array Value}{w:World}{R:Ending→World→Prop}(h:Calls P f args w R):CallsIn (FW r) n P f args w R :=
 (callsIn_wide (n:=n)).2 h
def mkD(M:List Nat):List Deferred:=M.map fun D=>{ target:=.collected D,args:=#[] }
def mkH(M:List Nat):LH:=M.map fun D=>own D (.deferred (some []))
def HT(r:Option Nat)(Y:LH):Prop:=∀l,r=some l→∃a0 Y',Y.Perm (own l (.loop a0)::Y')
def At(N:Nat)(env:Env)(L:LH)(θ:Th)(Y:LH)(a:Act)(w:World):Prop:=∃M,EnvOk N env a∧a.defers=mkD M∧Sat θ (L++(mkH M++Y)) w
def QK(θ:Th)(Y:LH)(N:Nat)(K:Post):Exit→Act→World→Prop:=fun e a w=>∃env L,At N env L θ Y a w∧K e env L
def G(P:Program)(N:Nat)(c:Code)(env:Env)(L:LH)(K:Post):Prop :=
 ∀r θ Y a w,HT r Y→At N env L θ Y a w→c.wpIn (FW r) 0 P (QK θ Y N K) a w
def GO(P:Program)(N:Nat)(a0:Array Oper)(l:List Oper)(env:Env)(L:LH)(K:Post):Prop :=
 ∀r θ Y a w,HT r Y→At N env L θ Y a w→wpListIn (FW r) 0 P a0 (QK θ Y N K) l a w
def Post.seq(n:Env→LH→Prop)(K:Post):Post:=fun e=>match e with
 | .normal=>n
 | e=>K e
def Post.inBlock(id:Nat)(K:Post):Post:=fun e=>match e with
 | .exit id'=>if id' = id then K .normal else K (.exit id')
 | e=>K e
section rules
variable {P:Program}{N:Nat}{env:Env}{L:LH}{K:Post}
def At.less{θ:Th}{Y:LH}{a:Act}{w:World}{a0 : Env}{L' : LH}(h:At N env L θ Y a w)(he:EnvSub env a0)(hl:Ent L L'):At N a0 L' θ Y a w :=
 let ⟨M,ea,hd,s⟩:=h;⟨M,ea.less he,hd,hl θ _ w s⟩
def At.eok{θ:Th}{Y:LH}{a:Act}{w:World}(h:At N env L θ Y a w):EnvOk N env a:=let ⟨_,ea,_,_⟩:=h;ea
def At.agr{θ:Th}{Y:LH}{a:Act}{w:World}(h:At N env L θ Y a w):Agr env a.eval:=h.eok.agr
def At.put{θ:Th}{Y:LH}{a:Act}{w:World}(h:At N env L θ Y a w){d:Nat}(hd:d<N)(v:Value):At N ((d,v)::env) L θ Y (a.put (some d) v) w :=
 let ⟨M,ea,hm,s⟩:=h;⟨M,ea.put hd v,hm,s⟩
def G.conseq{c:Code}{a0 : Env}{L' : LH}(h:G P N c a0 L' K)(he:EnvSub env a0)(hl:Ent L L'):G P N c env L K :=
 fun r θ Y a w hr i=>h r θ Y a w hr (i.less he hl)
def G.mono{c:Code}{K' : Post}(h:G P N c env L K)(hk:∀e env L,K e env L→K' e env L):G P N c env L K' :=
 fun r θ Y a w hr i=>wpIn_mono (h r θ Y a w hr i) fun _ _ _ ⟨a0,L',x,z⟩=>⟨a0,L',x,hk _ _ _ z⟩
def At.open_{α:Type}{φ:α→Prop}{L' : α→LH}(h:∀θ R w,Sat θ (L++R) w→∃x,φ x∧Sat θ (L' x++R) w){θ:Th}{Y:LH}{a:Act}{w:World}(i:At N env L θ Y a w):∃x,φ x∧At N env (L' x) θ Y a w :=
 let ⟨M,ea,hm,s⟩:=i;let ⟨x,hx,s'⟩:=h θ _ w s;⟨x,hx,M,ea,hm,s'⟩
def G.open_{α:Type}{c:Code}{φ:α→Prop}{L' : α→LH}(h:∀θ R w,Sat θ (L++R) w→∃x,φ x∧Sat θ (L' x++R) w)
  (k:∀x,φ x→G P N c env (L' x) K):G P N c env L K:=fun r θ Y a w hr i =>
 let ⟨x,hx,i'⟩:=i.open_ h;k x hx r θ Y a w hr i'
def GO.conseq{a1:Array Oper}{l:List Oper}{a0 : Env}{L' : LH}(h:GO P N a1 l a0 L' K)(he:EnvSub env a0)(hl:Ent L L'):GO P N a1 l env L K :=
 fun r θ Y a w hr i=>h r θ Y a w hr (i.less he hl)
def GO.open_{α:Type}{a0:Array Oper}{l:List Oper}{φ:α→Prop}{L' : α→LH}(h:∀θ R w,Sat θ (L++R) w→∃x,φ x∧Sat θ (L' x++R) w)
  (k:∀x,φ x→GO P N a0 l env (L' x) K):GO P N a0 l env L K:=fun r θ Y a w hr i =>
 let ⟨x,hx,i'⟩:=i.open_ h;k x hx r θ Y a w hr i'
def G.seq{x y:Code}(h:G P N x env L (K.seq fun a0 L'=>G P N y a0 L' K)):G P N (.seq x y) env L K:=by
 intro r θ Y a w hr i;refine wpIn_seq (wpIn_mono (h r θ Y a w hr i) ?_);rintro e a' w' ⟨a0,L',i',hk⟩;cases e with
 | normal=>exact hk r θ Y a' w' hr i'
 | exit id=>exact⟨a0,L',i',hk⟩
 | goto l=>exact⟨a0,L',i',hk⟩
 | ret=>exact⟨a0,L',i',hk⟩
 | panic ch=>exact⟨a0,L',i',hk⟩
 | outgrown=>exact⟨a0,L',i',hk⟩
def G.mid{x y:Code}(M:Env→LH→Prop)(h:G P N x env L (K.seq M))(h' : ∀a0 L',M a0 L'→G P N y a0 L' K):G P N (.seq x y) env L K :=
 G.seq (h.mono fun e env L hk=>by cases e<;>first|exact h' _ _ hk|exact hk)
def G.block{id:Nat}{c:Code}(h:G P N c env L (K.inBlock id)):G P N (.block id c) env L K:=by
 intro r θ Y a w hr i;refine wpIn_block (wpIn_mono (h r θ Y a w hr i) ?_);rintro e a' w' ⟨a0,L',i',hk⟩;cases e with
 | exit id' =>
  simp only[Post.inBlock] at hk;simp only[Exit.inBlock];split
  ·rename_i he;rw[if_pos he] at hk;exact⟨a0,L',i',hk⟩
  ·rename_i he;rw[if_neg he] at hk;exact⟨a0,L',i',hk⟩
 | normal=>exact⟨a0,L',i',hk⟩
 | goto l=>exact⟨a0,L',i',hk⟩
 | ret=>exact⟨a0,L',i',hk⟩
 | panic ch=>exact⟨a0,L',i',hk⟩
 | outgrown=>exact⟨a0,L',i',hk⟩
def G.skip(h:K .normal env L):G P N .skip env L K:=fun _ _ _ _ _ _ i=>wpIn_skip ⟨env,L,i,h⟩
def G.ret(h:K .ret env L):G P N .ret env L K:=fun _ _ _ _ _ _ i=>wpIn_ret ⟨env,L,i,h⟩
def G.exit{id:Nat}(h:K (.exit id) env L):G P N (.exit id) env L K:=fun _ _ _ _ _ _ i=>wpIn_exit ⟨env,L,i,h⟩
def G.g8{c:Operand}{x y:Code}(hc:evE env c=some (.bool true))(h:G P N x env L K):G P N (.cond c x y) env L K :=
 fun r θ Y a w hr i=>wpIn_cond_true (aL i.agr hc) (h r θ Y a w hr i)
def G.f9{c:Operand}{x y:Code}(hc:evE env c=some (.bool false))(h:G P N y env L K):G P N (.cond c x y) env L K :=
 fun r θ Y a w hr i=>wpIn_cond_false (aL i.agr hc) (h r θ Y a w hr i)
def G.g9{c:Operand}{x y:Code}{b:Bool}(hc:evE env c=some (.bool b))(h:b=true→G P N x env L K)(h' : b=false→G P N y env L K):G P N (.cond c x y) env L K:=by
 cases b with
 | true=>exact G.g8 hc (h rfl)
 | false=>exact G.f9 hc (h' rfl)
def G.region{id:Nat}{l:List Oper}(h:GO P N l.toArray l env L K):G P N (.region id l.toArray false) env L K :=
 fun r θ Y a w hr i=>wpIn_region_lit (h r θ Y a w hr i)
def sI{F:Fence}{n:Nat}{Q:Exit→Act→World→Prop}{a:Act}{w:World}{c:Code}(I:Nat→Act→World→Prop)(n₀:Nat)(h₀:I n₀ a w)
  (round:∀m a w,I m a w→c.wpIn F n P (Exit.then (fun a' w'=>∃n',n' < m∧I n' a' w') Q) a w):(Code.loop c).wpIn F n P Q a w:=by
 refine wpIn_loop (fun a w=>∃n,I n a w) (fun a w=>leastOf (fun n=>I n a w)) ⟨n₀,h₀⟩ ?_;intro a w hI;refine wpIn_mono (round _ a w (leastOf_spec hI).1) ?_;intro e a' w' hq;cases e with
 | normal =>
  obtain⟨n',a1,a0⟩:=hq;exact show(∃n,I n a' w')∧leastOf (fun n=>I n a' w')<leastOf (fun n=>I n a w) from⟨⟨n',a0⟩,Nat.lt_of_le_of_lt ((leastOf_spec ⟨n',a0⟩).2 n' a0) a1⟩
 | exit id=>exact hq
 | goto l=>exact hq
 | ret=>exact hq
 | panic ch=>exact hq
 | outgrown=>exact hq
def G.loop{α:Type}{c:Code}(Inv:α→Prop)(e:α→Env)(l:α→LH)(m:α→Nat)(x₀:α)(h₀:Inv x₀)(he:EnvSub env (e x₀))(hl:Ent L (l x₀))
  (round:∀x,Inv x→G P N c (e x) (l x) (K.seq fun a0 L'=>∃x',Inv x'∧m x' < m x∧EnvSub a0 (e x')∧Ent L' (l x'))):G P N (.loop c) env L K:=by
 intro r θ Y a w hr i;refine sI (fun n a w=>∃x,m x=n∧Inv x∧At N (e x) (l x) θ Y a w) (m x₀) ⟨x₀,rfl,h₀,i.less he hl⟩ ?_;rintro n a w ⟨x,rfl,hx,i⟩;refine wpIn_mono (round x hx r θ Y a w hr i) ?_;rintro ex a' w' ⟨a0,L',i',hk⟩;cases ex with
 | normal=>obtain⟨x',i1,i2,i3,i4⟩:=hk;exact⟨m x',i2,x',rfl,i1,i'.less i3 i4⟩
 | exit id=>exact⟨a0,L',i',hk⟩
 | goto l=>exact⟨a0,L',i',hk⟩
 | ret=>exact⟨a0,L',i',hk⟩
 | panic ch=>exact⟨a0,L',i',hk⟩
 | outgrown=>exact⟨a0,L',i',hk⟩
def GO.nil{a0:Array Oper}(h:K .normal env L):GO P N a0 [] env L K:=fun _ _ _ _ _ _ i=>wpListIn_nil ⟨env,L,i,h⟩
def Ev(P:Program)(L:LH)(env:Env)(op:Op)(ty:TypeId)(v:Value):Prop :=
 ∀θ R ρ w o,Agr env ρ→Sat θ (L++R) w→o.op=op→o.type=ty→(execOp ρ o).run P w=.ok (.value v) w
def Ev.mk{op:Op}{ty:TypeId}{v:Value}(h:∀θ R ρ w,Agr env ρ→Sat θ (L++R) w→∀a0 pos af g,(execOp ρ ⟨a0,op,ty,pos,af,g⟩).run P w=.ok (.value v) w):Ev P L env op ty v:=by
 rintro θ R ρ w ⟨a0,a1,a2,pos,af,g⟩ ha s rfl rfl;exact h θ R ρ w ha s a0 pos af g
def Ev.any{op:Op}{ty:TypeId}{v:Value}(h:Ev P [] env op ty v):Ev P L env op ty v :=
 fun θ R ρ w o ha s h1 h2=>h θ (L++R) ρ w o ha s h1 h2
def Ef(P:Program)(L:LH)(env:Env)(op:Op)(ty:TypeId)(post:Value→LH→Prop):Prop :=
 ∀θ R a w o next Q,Agr env a.eval→Sat θ (L++R) w→o.op=op→o.type=ty→(∀v L' w',post v L'→Sat θ (L'++R) w'→next (a.put o.dst v) w')→Oper.wp P o a w next Q
def Ef.val{op:Op}{ty:TypeId}{post:Value→LH→Prop}(h:∀θ R ρ w,Agr env ρ→Sat θ (L++R) w→∀a0 pos af g,∃v w' L',(execOp ρ ⟨a0,op,ty,pos,af,g⟩).run P w=.ok (.value v) w'∧post v L'∧Sat θ (L'++R) w'):Ef P L env op ty post:=by
 rintro θ R a w ⟨a0,a1,a2,pos,af,g⟩ next Q ha s rfl rfl hn
 obtain⟨v,w',L',h1,h2,h3⟩:=h θ R a.eval w ha s a0 pos af g;rw[Oper.wp,h1,Oper.upon_value];exact hn v L' w' h2 h3
def Ef.skip{op:Op}{ty:TypeId}{post:Value→LH→Prop}(h:∀θ R ρ w,Agr env ρ→Sat θ (L++R) w→∀a0 pos af g,∃w' L',(execOp ρ ⟨a0,op,ty,pos,af,g⟩).run P w=.ok .skip w'∧post undef L'∧Sat θ (L'++R) w'):Ef P L env op ty post:=by
 rintro θ R a w ⟨a0,a1,a2,pos,af,g⟩ next Q ha s rfl rfl hn
 obtain⟨w',L',h1,h2,h3⟩:=h θ R a.eval w ha s a0 pos af g;rw[Oper.wp,h1,Oper.upon_skip];exact hn undef L' w' h2 h3
def Ev.ef{op:Op}{ty:TypeId}{v:Value}(h:Ev P L env op ty v):Ef P L env op ty (fun u L'=>u=v∧L' = L):=by
 intro θ R a w o next Q ha s h1 h2 hn
 rw[Oper.wp,h θ R a.eval w o ha s h1 h2,Oper.upon_value];exact hn v L w ⟨rfl,rfl⟩ s
def defers_put(a:Act)(d:Option Tmp)(v:Value):(a.put d v).defers=a.defers:=by cases d<;>rfl
def Ef.noDefer{op:Op}{ty:TypeId}{post:Value→LH→Prop}(he:Ef P L env op ty post){θ:Th}{R:LH}{a:Act}{w:World}(ha:Agr env a.eval)(s:Sat θ (L++R) w):∀c,op≠.defer c:=by
 rintro c rfl;have h := he θ R a w ⟨none, .defer c, ty, "", #[], none⟩ (fun a' _ => a'.defers = a.defers) (fun _ _ _ => False) ha s rfl rfl (fun v L' w' _ _ => defers_put _ _ _)
 unfold Oper.wp at h;simp only[execOp] at h;rw[Sem.run_bind] at h;cases hr:(resolve a.eval c ty).run P w with
 | ok d w' =>
  rw[hr] at h;simp only[Result.andThen_ok,Sem.run_pure,Oper.upon,Act.put] at h;exact absurd (congrArg List.length h) (by simp)
 | halt x w' =>
  rw[hr] at h;cases x<;>simp[Result.andThen,Oper.upon] at h
def mf{r:Option Nat}{o:Oper}{a:Act}{w:World}{next:Act→World→Prop}{Q:Exit→Act→World→Prop}(hd:∀c,o.op≠.defer c)(h:o.wp P a w next Q):o.wpIn (FW r) 0 P a w next Q:=by
 refine⟨fun _ _=>trivial,?_⟩;rw[Oper.semAt_eq _ _ _ hd];unfold Oper.wp at h;generalize (execOp a.eval o).run P w=x at h;cases x with
 | ok y w' =>
  cases y<;>simp only[Oper.upon] at h<;>simp only[Oper.uponIn]
  all_goals first
   | exact h
   | exact h.elim
   | exact⟨(fun h=>by cases h),mC (by exact h)⟩
   | exact⟨(fun h=>by cases h),fun c cs _=>(h c cs).imp fun v hv=>hv.imp fun a0 hw=>⟨hw.1,stepsIn_wide.2 hw.2⟩⟩
 | halt y w'=>cases y<;>simp only[Oper.upon] at h<;>simp only[Oper.uponIn]<;>first|exact h|exact h.elim
def GO.ef{a0:Array Oper}{rest:List Oper}{d:Nat}{op:Op}{ty:TypeId}{pos:String}{af:Array Edge}{post:Value→LH→Prop}(he:Ef P L env op ty post)(hd:d<N)
  (h:∀v L',post v L'→GO P N a0 rest ((d,v)::env) L' K):GO P N a0 (⟨some d,op,ty,pos,af,none⟩::rest) env L K:=by
 intro r θ Y a w hr i;refine wpListIn_plain rfl fun K' hK=>?_;obtain⟨M,ea,hm,s⟩:=i;exact mf (he.noDefer ea.agr s) (he θ _ a w _ K' _ ea.agr s rfl rfl fun v L' w' hp s'=>hK _ _ (h v L' hp r θ Y _ _ hr ⟨M,ea.put hd _,by rw[defers_put];exact hm,s'⟩))
def GO.efu{a0:Array Oper}{rest:List Oper}{op:Op}{ty:TypeId}{pos:String}{af:Array Edge}{post:Value→LH→Prop}(he:Ef P L env op ty post)
  (h:∀v L',post v L'→GO P N a0 rest env L' K):GO P N a0 (⟨none,op,ty,pos,af,none⟩::rest) env L K:=by
 intro r θ Y a w hr i;refine wpListIn_plain rfl fun K' hK=>?_;obtain⟨M,ea,hm,s⟩:=i;exact mf (he.noDefer ea.agr s) (he θ _ a w _ K' _ ea.agr s rfl rfl fun v L' w' hp s'=>hK _ _ (h v L' hp r θ Y _ _ hr ⟨M,ea,hm,s'⟩))
def GO.ev{a0:Array Oper}{rest:List Oper}{d:Nat}{op:Op}{ty:TypeId}{pos:String}{af:Array Edge}{v:Value}(he:Ev P L env op ty v)(hd:d<N)
  (h:GO P N a0 rest ((d,v)::env) L K):GO P N a0 (⟨some d,op,ty,pos,af,none⟩::rest) env L K :=
 GO.ef he.ef hd (by rintro _ _⟨rfl,rfl⟩;exact h)
def GO.d9{a0:Array Oper}{rest:List Oper}{a1:Option Tmp}{op:Op}{ty:TypeId}{pos:String}{af:Array Edge}{j t:Nat}{b:Bool}
  (hj:(a0[j]?).bind (·.dst)=some t) (ht:env.lookup t=some (.bool b))
  (h:GO P N a0 (⟨a1,op,ty,pos,af,none⟩::rest) env L K):GO P N a0 (⟨a1,op,ty,pos,af,some (j,b)⟩::rest) env L K:=by
 intro r θ Y a w hr i;have h1:=h r θ Y a w hr i
 have hy:yielded a0 a.tmps j=some b:=by
  unfold yielded;rw[hj];simp[i.eok.at_ t _ ht]
 simp only[wpListIn,Region.wanted,hy,beq_self_eq_true,if_true] at h1 ⊢;exact h1
def GO.f7{a0:Array Oper}{rest:List Oper}{d:Nat}{op:Op}{ty:TypeId}{pos:String}{af:Array Edge}{j t:Nat}{b c:Bool}
  (hj:(a0[j]?).bind (·.dst)=some t) (ht:env.lookup t=some (.bool c)) (hb:(c == b)=false) (hd:d<N)
  (h:GO P N a0 rest ((d,undef)::env) L K):GO P N a0 (⟨some d,op,ty,pos,af,some (j,b)⟩::rest) env L K:=by
 intro r θ Y a w hr i;have h1:=h r θ Y (a.put (some d) undef) w hr (i.put hd _)
 have hy:yielded a0 a.tmps j=some c:=by
  unfold yielded;rw[hj];simp[i.eok.at_ t _ ht]
 have a1:(some c == some b)=false:=by cases c<;>cases b<;>simp_all
 simp only[wpListIn,Region.wanted,hy,a1] at h1 ⊢;exact⟨fun _ _=>trivial,h1⟩
def GO.c9{a0:Array Oper}{rest:List Oper}{d:Nat}{op:Op}{ty:TypeId}{pos:String}{af:Array Edge}{j t:Nat}{b:Bool}
  (hj:(a0[j]?).bind (·.dst)=some t) (ht:env.lookup t=some undef) (hd:d<N)
  (h:GO P N a0 rest ((d,undef)::env) L K):GO P N a0 (⟨some d,op,ty,pos,af,some (j,b)⟩::rest) env L K:=by
 intro r θ Y a w hr i;have h1:=h r θ Y (a.put (some d) undef) w hr (i.put hd _)
 have hy:yielded a0 a.tmps j=none:=by
  unfold yielded;rw[hj];simp[i.eok.at_ t _ ht,undef]
 simp only[wpListIn,Region.wanted,hy] at h1 ⊢;exact⟨fun _ _=>trivial,h1⟩
end rules
def Enters(P:Program)(f:FuncId):Prop:=∀args w,(callFunc f args).run P w=.ok (.enter f args) w
structure Tri (P:Program) (f:FuncId) (args:Array Value) (L:LH) (post:Value→LH→Prop):Prop where
 enters:Enters P f
 calls:∀θ R w,Sat θ (L++R) w→Calls P f args w fun e w'=>∃v L',e=.returned v∧post v L'∧Sat θ (L'++R) w'
def Tri.mono{P:Program}{f:FuncId}{args:Array Value}{L:LH}{post a0 : Value→LH→Prop}(h:Tri P f args L post)(hp:∀v L,post v L→a0 v L):Tri P f args L a0 :=
 ⟨h.enters,fun θ R w s=>(h.calls θ R w s).mono fun _ _ ⟨v,L',a,b,c⟩=>⟨v,L',a,hp _ _ b,c⟩⟩
def Tri.pre{P:Program}{f:FuncId}{args:Array Value}{L L' : LH}{post:Value→LH→Prop}(h:Tri P f args L' post)(hl:Ent L L'):Tri P f args L post :=
 ⟨h.enters,fun θ R w s=>h.calls θ R w (hl θ R w s)⟩
def env0(args:LV)(k:Nat):Env:=match args with
 | []=>[]
 | v::r=>(k,v)::env0 r (k+1)
def rI(args:LV)(k t:Nat):(env0 args k).lookup t=if k≤t then args[t - k]? else none:=by
 induction args generalizing k with
 | nil=>simp[env0]
 | cons v r ih =>
  simp only[env0,List.lookup_cons];by_cases h:t=k
  ·subst h;simp
  ·have hb:(t == k)=false:=by simpa using h
   simp only[hb,ih];by_cases hk:k+1≤t
   ·rw[if_pos hk,if_pos (by omega),show t - k=(t - (k+1))+1 by omega];simp
   ·rw[if_neg hk,if_neg (by omega)]
def resE(env:Env):List ResultVar→Option (LV)
 | []=>some []
 | .tmp t::r=>match env.lookup t,resE env r with
  | some v,some vs=>some (v::vs)
  | _,_=>none
 | .cell _ _::_=>none
def resV:LV→Value
 | [v]=>v
 | vs=>.tuple vs.toArray
def Ir{P:Program}{N:Nat}{env:Env}{a:Act}(h:EnvOk N env a)(w:World)(g:ResultVar→Sem Value)(hg:∀t,g (ResultVar.tmp t)=Sem.pure (a.tmps.getD t undef)) :
  ∀(rs:List ResultVar) (vs:LV),resE env rs=some vs→(rs.mapM g).run P w=Result.ok vs w:=by
 intro rs;induction rs with
 | nil=>intro vs hv;simp[resE] at hv;subst hv;simp
 | cons r rs ih =>
  intro vs hv;cases r with
  | cell x t=>simp[resE] at hv
  | tmp t =>
   simp only[resE] at hv;split at hv
   ·rename_i v ws h1 h2;simp at hv;subst hv;have h3:=h.at_ t v h1;simp[List.mapM_cons,ih ws h2,hg,h3]
   ·cases hv
def ResOk(P:Program)(N:Nat)(env:Env)(L:LH)(rs:List ResultVar)(vs:LV):Prop :=
 ∀θ R a w,EnvOk N env a→Sat θ (L++R) w→∀g:ResultVar→Sem Value,(∀t,g (ResultVar.tmp t)=Sem.pure (a.tmps.getD t undef))→(∀x t,g (ResultVar.cell x t)=(do loadVar t (← asAddr (a.tmps.getD x undef))))→(rs.mapM g).run P w=Result.ok vs w
def ResOk.tmps{P:Program}{N:Nat}{env:Env}{L:LH}{rs:List ResultVar}{vs:LV}(h:resE env rs=some vs):ResOk P N env L rs vs:=fun _ _ _ w ea _ g hg _=>Ir ea w g hg rs vs h
def ResOk.nil{P:Program}{N:Nat}{env:Env}{L:LH}:ResOk P N env L [] []:=ResOk.tmps rfl
def ResOk.tmp{P:Program}{N:Nat}{env:Env}{L:LH}{rs:List ResultVar}{vs:LV}{t:Nat}{v:Value}(h:env.lookup t=some v)(hr:ResOk P N env L rs vs):ResOk P N env L (.tmp t::rs) (v::vs):=by
 intro θ R a w ea s g h1 h2;have h3:=ea.at_ t v h;simp[List.mapM_cons,hr θ R a w ea s g h1 h2,h1,h3]
def ti{P:Program}{N:Nat}{env:Env}{L R:LH}{θ:Th}{a:Act}{fn:Func}(h:EnvOk N env a){w:World}(s:Sat θ (L++R) w){rs:List ResultVar}{vs:LV}(hf:fn.results=rs.toArray)(hv:ResOk P N env L rs vs) :
  (results fn a.tmps).run P w=.ok (resV vs) w:=by
 unfold results;rw[hf];simp only[List.mapM_toArray,Sem.run_bind,Sem.run_map];rw[hv θ R a w h s _ (fun t=>rfl) (fun x t=>rfl)];simp only[Result.andThen_ok,Sem.run_pure];congr 1;match vs with
 | []=>rfl
 | [v]=>rfl
 | v::u::r=>simp[resV]
def Ends(P:Program)(N:Nat)(rs:List ResultVar)(post:Value→LH→Prop):Post:=fun e env L=>(e=.ret∨e=.normal)∧∀θ R w,Sat θ (L++R) w→∃vs L',ResOk P N env L rs vs∧Sat θ (L'++R) w∧post (resV vs) L'
def ql{P:Program}{fn:Func}{tmps:Array Value}{R:Ending→World→Prop}{θ:Th}{Y:LH}:∀(M:List Nat) (w:World),Sat θ (mkH M++Y) w→(∀w',Sat θ Y w'→LeavesIn Fence.wide 0 P fn tmps R [] .returning w')→LeavesInM Fence.wide 0 P fn tmps R (mkD M) .returning w
 | [],w,s,h=>h w s
 | D::M,w,s,h=>by
  have s0:Sat θ (own D (.deferred (some []))::(mkH M++Y)) w:=s;have hb:=s0.own_heap;refine⟨by simp,.inl ⟨D,{ w with heap:=w.heap.setIfInBounds D (.deferred none) },rfl,?_,?_⟩⟩
  ·simp[Instr.takeDeferred,getObj,setObj,Sem.run,hb,bind,Sem.bind,pure]
  ·have a0:D<w.heap.size:=(Array.getElem?_eq_some_iff.1 hb).1
   have s1:Sat θ (own D (.deferred none)::(mkH M++Y)) { w with heap:=w.heap.setIfInBounds D (.deferred none) }:=by
    refine s0.update ⟨s.1.tape,s.1.os,s.1.output,s.1.drawn⟩ (by simp[a0]) ?_;intro k x hk hx;simp only[Array.getElem?_setIfInBounds];rw[if_neg (fun e=>hk e.symm)];exact hx
   exact ql M _ s1.tail h
def Tri.body{P:Program}{f:FuncId}{fn:Func}{c:Code}{args:LV}{L:LH}{post:Value→LH→Prop}{rs:List ResultVar}(N:Nat)
  (he:Enters P f) (hf:P.funcs[f]? = some fn) (hb:fn.body=some c) (hr:fn.results=rs.toArray) (hN:fn.ntmps=N) (a9 : args.length≤N)
  (h:G P N c (env0 args 0) L (Ends P N rs post)):Tri P f args.toArray L post:=by
 refine⟨he,fun θ R w s=>(callsIn_wide (n:=0)).1 (callsIn_of_wp_marks hf hb trivial ?_)⟩
 have ea:EnvOk N (env0 args 0) { tmps:=args.toArray++Array.replicate (fn.ntmps - args.toArray.size) undef,defers:=[] }:=by
  refine⟨by simp[hN];omega,?_⟩;intro t v ht;rw[rI] at ht;simp at ht;have a6:t<args.length:=(List.getElem?_eq_some_iff.1 ht).1;rw[Array.getElem?_append_left (by simpa using a6)];simpa using ht
 refine wpIn_mono (h none θ R _ w (fun l hl=>by cases hl) ⟨[],ea,rfl,s⟩) ?_;rintro e a' w' ⟨a5,L',⟨M,a4,hm,s'⟩,hex,a2⟩
 have a0:LeavesInM Fence.wide 0 P fn a'.tmps (fun e w'=>∃v L',e=.returned v∧post v L'∧Sat θ (L'++R) w') a'.defers .returning w':=by
  rw[hm]
  have s1:Sat θ (mkH M++(L'++R)) w':=s'.perm (by
   rw[←List.append_assoc,←List.append_assoc];exact List.perm_append_comm.append_right R)
  refine ql M w' s1 fun w₂ s₂=>?_;obtain⟨vs,L'',a7,a3,a1⟩:=a2 θ R w₂ s₂;exact⟨_,ti (P:=P) a4 s₂ hr a7,_,L'',rfl,a1,a3⟩
 rcases hex with rfl|rfl
 ·exact a0
 ·exact a0
def Ef.call{P:Program}{env:Env}{L R' : LH}{f:FuncId}{xs:Array Operand}{ats:Array TypeId}{ty:TypeId}{vs:LV}{pre:LH}{post:Value→LH→Prop}
  (c:Tri P f vs.toArray pre post) (hv:fD env xs.toList=some vs) (hL:Ent L (pre++R')) :
  Ef P L env (.call { callee:=.value (.func f),args:=xs,argTypes:=ats }) ty (fun v L'=>∃L₁,post v L₁∧L' = L₁++R'):=by
 rintro θ R a w ⟨a2,a4,a3,pos,af,g⟩ next Q ha s rfl rfl hn
 have a0:xs.map a.eval=vs.toArray:=by
  apply Array.ext';simpa using ha.list xs.toList vs hv
 have a1:(execOp a.eval ⟨a2,.call { callee:=.value (.func f),args:=xs,argTypes:=ats },a3,pos,af,g⟩).run P w=.ok (.enter f vs.toArray) w:=by
  simp[execOp,resolve,Deferred.ofValue,Act.eval,invoke,a0];exact c.enters _ _
 rw[Oper.wp,a1,Oper.upon_enter];refine(c.calls θ (R'++R) w (by rw[←List.append_assoc];exact hL θ R w s)).mono ?_;rintro e w' ⟨v,L',rfl,hp,s'⟩;exact hn v _ w' ⟨L',hp,rfl⟩ (by rw[List.append_assoc];exact s')
def dB(p:Prop)[Decidable p]:Bool:=decide p
def dK(p:Prop)[Decidable p]:dB p=decide p:=rfl
attribute [irreducible] dB
def bE{p:Prop}[Decidable p](h:p):dB p=true:=by rw[dK];exact decide_eq_true h
def aW{p:Prop}[Decidable p](h:¬p):dB p=false:=by rw[dK];exact decide_eq_false h
def CB(b:Bool)(p q:Prop):Prop:=(b=true→p)∧(b=false→q)
def CB.tt{p q:Prop}(h:p):CB true p q:=⟨fun _=>h,fun h=>by cases h⟩
def CB.ff{p q:Prop}(h:q):CB false p q:=⟨fun h=>(by cases h),fun _=>h⟩
def CB.dec{φ:Prop}[Decidable φ]{p q:Prop}(h:φ→p)(h' : ¬φ→q):CB (dB φ) p q:=⟨fun e=>h (of_decide_eq_true (by rw[←dK];exact e)),fun e=>h' (of_decide_eq_false (by rw[←dK];exact e))⟩
def CB.pos{φ:Prop}[Decidable φ]{p q:Prop}(hφ:φ)(h:p):CB (dB φ) p q:=CB.dec (fun _=>h) (fun e=>absurd hφ e)
def CB.neg{φ:Prop}[Decidable φ]{p q:Prop}(hφ:¬φ)(h:q):CB (dB φ) p q:=CB.dec (fun e=>absurd e hφ) (fun _=>h)
def CB.bool{b:Bool}{p q:Prop}(h:b=true→p)(h' : b=false→q):CB b p q:=⟨h,h'⟩
def GB(b:Bool)(p p' q q' : Prop):Prop:=(b=true→p∨p')∧(b=false→q∨q')
def GB.tt{p p' q q' : Prop}(h:p):GB true p p' q q':=⟨fun _=>.inl h,fun h=>by cases h⟩
def GB.ff{p p' q q' : Prop}(h:q):GB false p p' q q':=⟨fun h=>(by cases h),fun _=>.inl h⟩
def GB.dec{φ:Prop}[Decidable φ]{p p' q q' : Prop}(h:φ→p')(h' : ¬φ→q'):GB (dB φ) p p' q q':=⟨fun e=>.inr (h (of_decide_eq_true (by rw[←dK];exact e))),fun e=>.inr (h' (of_decide_eq_false (by rw[←dK];exact e)))⟩
def GB.pos{φ:Prop}[Decidable φ]{p p' q q' : Prop}(hφ:φ)(h:p'):GB (dB φ) p p' q q':=GB.dec (fun _=>h) (fun e=>absurd hφ e)
def GB.neg{φ:Prop}[Decidable φ]{p p' q q' : Prop}(hφ:¬φ)(h:q'):GB (dB φ) p p' q q':=GB.dec (fun e=>absurd e hφ) (fun _=>h)
def GB.bool{b:Bool}{p p' q q' : Prop}(h:b=true→p')(h' : b=false→q'):GB b p p' q q':=⟨fun e=>.inr (h e),fun e=>.inr (h' e)⟩
def G.cond{P:Program}{N:Nat}{env:Env}{L:LH}{K:Post}{c:Operand}{x y:Code}{b:Bool}(hc:evE env c=some (.bool b))(h:CB b (G P N x env L K) (G P N y env L K)):G P N (.cond c x y) env L K :=
 G.g9 hc h.1 h.2
def GO.f8{P:Program}{N:Nat}{env:Env}{L:LH}{K:Post}{a0:Array Oper}{rest:List Oper}{d:Nat}{op:Op}{ty:TypeId}{pos:String}{af:Array Edge}{j t:Nat}{c:Bool}
  (hj:(a0[j]?).bind (·.dst)=some t) (ht:env.lookup t=some (.bool c)) (hd:d<N)
  (h:GB c (GO P N a0 (⟨some d,op,ty,pos,af,none⟩::rest) env L K) (GO P N a0 (⟨some d,op,ty,pos,af,none⟩::rest) ((t,.bool true)::env) L K) (GO P N a0 rest ((d,undef)::env) L K) (GO P N a0 rest ((d,undef)::(t,.bool false)::env) L K)) :
  GO P N a0 (⟨some d,op,ty,pos,af,some (j,true)⟩::rest) env L K:=by
 cases c with
 | true=>exact GO.d9 hj ht ((h.1 rfl).elim id fun h=>h.conseq (EnvSub.cons ht (EnvSub.refl _)) (Ent.refl _))
 | false=>exact GO.f7 hj ht rfl hd ((h.2 rfl).elim id fun h=>h.conseq (by
   intro u v hu;simp only[List.lookup_cons] at hu ⊢;split
   ·rename_i e;simp only[e] at hu;exact hu
   ·rename_i e;simp only[e] at hu;split at hu
    ·rename_i e2;rw[beq_iff_eq] at e2;subst e2;rw[ht];exact hu
    ·exact hu) (Ent.refl _))
def GO.f9{P:Program}{N:Nat}{env:Env}{L:LH}{K:Post}{a0:Array Oper}{rest:List Oper}{d:Nat}{op:Op}{ty:TypeId}{pos:String}{af:Array Edge}{j t:Nat}{c:Bool}
  (hj:(a0[j]?).bind (·.dst)=some t) (ht:env.lookup t=some (.bool c)) (hd:d<N)
  (h:GB c (GO P N a0 rest ((d,undef)::env) L K) (GO P N a0 rest ((d,undef)::(t,.bool true)::env) L K) (GO P N a0 (⟨some d,op,ty,pos,af,none⟩::rest) env L K) (GO P N a0 (⟨some d,op,ty,pos,af,none⟩::rest) ((t,.bool false)::env) L K)) :
  GO P N a0 (⟨some d,op,ty,pos,af,some (j,false)⟩::rest) env L K:=by
 cases c with
 | false=>exact GO.d9 hj ht ((h.2 rfl).elim id fun h=>h.conseq (EnvSub.cons ht (EnvSub.refl _)) (Ent.refl _))
 | true=>exact GO.f7 hj ht rfl hd ((h.1 rfl).elim id fun h=>h.conseq (by
   intro u v hu;simp only[List.lookup_cons] at hu ⊢;split
   ·rename_i e;simp only[e] at hu;exact hu
   ·rename_i e;simp only[e] at hu;split at hu
    ·rename_i e2;rw[beq_iff_eq] at e2;subst e2;rw[ht];exact hu
    ·exact hu) (Ent.refl _))
section kx
variable {P:Program}{N:Nat}{env:Env}{L:LH}{K:Post}{n:Env→LH→Prop}
def KX.f9{id:Nat}(h:K (.exit id) env L):Post.seq n K (.exit id) env L:=h
def KX.g8(h:K .ret env L):Post.seq n K .ret env L:=h
def KX.d7(h:n env L):Post.seq n K .normal env L:=h
def KX.d9{y:Code}(h:G P N y env L K):Post.seq (fun a0 L'=>G P N y a0 L' K) K .normal env L:=h
def KX.d8{id:Nat}(h:K .normal env L):Post.inBlock id K (.exit id) env L:=by simpa [Post.inBlock] using h
def KX.c9{id a0 : Nat}(a1:a0≠id)(h:K (.exit a0) env L):Post.inBlock id K (.exit a0) env L:=by simpa [Post.inBlock,a1] using h
def KX.f8{id:Nat}(h:K .ret env L):Post.inBlock id K .ret env L:=h
def KX.c7{id:Nat}(h:K .normal env L):Post.inBlock id K .normal env L:=h
def KX.a8{rs:List ResultVar}{post:Value→LH→Prop}{vs:LV}{L' : LH}(h1:ResOk P N env L rs vs)(h2:Ent L L')(h3:post (resV vs) L'):Ends P N rs post .ret env L:=⟨.inl rfl,fun θ R w s=>⟨vs,L',h1,h2 θ R w s,h3⟩⟩
def KX.c8{rs:List ResultVar}{post:Value→LH→Prop}{vs:LV}{L' : LH}(h1:ResOk P N env L rs vs)(h2:Ent L L')(h3:post (resV vs) L'):Ends P N rs post .normal env L:=⟨.inr rfl,fun θ R w s=>⟨vs,L',h1,h2 θ R w s,h3⟩⟩
def KX.f7{rs:List ResultVar}{post:Value→LH→Prop}{e:Exit}{φ:Prop}(he:e=.ret∨e=.normal)(h:∀θ R w,Sat θ (L++R) w→φ)(k:φ→Ends P N rs post e env L):Ends P N rs post e env L:=⟨he,fun θ R w s=>(k (h θ R w s)).2 θ R w s⟩
def KX.ent{rs:List ResultVar}{post:Value→LH→Prop}{vs:LV}{L' : LH}(a0:ResOk P N env L rs vs)(a1:Ent L L')(h3:Ends P N rs post .ret env L):Ends P N rs post .ret env L:=h3
