/- Lemmas. -/
import Derived.WalkKit
import Derived.Orders
import Derived.Deep.LoopGhost
import Derived.OrdersIn
import Derived.TacticsIn
import Derived.RangeFuncLeaves
import Derived.Maps.AppendAt
import Derived.OrdersHeld
set_option linter.all false
namespace Go.V
abbrev LV:=List Value
abbrev OA:=Option Addr
section
abbrev Hp:=Nat→Option Obj
def Hp.sub(a b:Hp):Prop:=∀k o,a k=some o→b k=some o
def Hp.disj(a b:Hp):Prop:=∀k o,a k=some o→b k=none
def Hp.d9(a b:Hp):Hp:=fun k=>(a k).or (b k)
def Hp.emp:Hp:=fun _=>none
def Hp.sub.refl(a:Hp):Hp.sub a a:=fun _ _ h=>h
def Hp.sub.trans{a b c:Hp}(h:Hp.sub a b)(k:Hp.sub b c):Hp.sub a c:=fun i o x=>k i o (h i o x)
def Hp.disj.symm{a b:Hp}(h:Hp.disj a b):Hp.disj b a:=by
 intro k o hb;cases ha:a k with
 | none=>rfl
 | some x=>have:=h k x ha;rw[hb] at this;cases this
def Hp.disj.mono{a b a' b' : Hp}(h:Hp.disj a b)(ha:Hp.sub a' a)(hb:Hp.sub b' b):Hp.disj a' b':=by
 intro k o x;have h1:=h k o (ha k o x);cases hk:b' k with
 | none=>rfl
 | some y=>have:=hb k y hk;rw[h1] at this;cases this
def Hp.d8(a:Hp):Hp.disj Hp.emp a:=fun _ _ h=>by cases h
def Hp.d7(a:Hp):Hp.sub Hp.emp a:=fun _ _ h=>by cases h
def Hp.e7(a b:Hp):Hp.sub a (Hp.d9 a b):=fun k o h=>by simp[Hp.d9,h]
def Hp.e8{a b:Hp}(h:Hp.disj a b):Hp.sub b (Hp.d9 a b):=fun k o hk=>by
 have:=h.symm k o hk
 simp[Hp.d9,this,hk]
def Hp.f8{a b c:Hp}(h:Hp.sub a c)(h' : Hp.sub b c):Hp.sub (Hp.d9 a b) c:=by
 intro k o hk;unfold Hp.d9 at hk;cases ha:a k with
 | none=>rw[ha] at hk;exact h' k o (by simpa using hk)
 | some x=>rw[ha] at hk;simp at hk;subst hk;exact h k x ha
def Hp.e9{a b c:Hp}(h:Hp.disj a b)(h' : Hp.disj a c):Hp.disj a (Hp.d9 b c):=by
 intro k o hk;simp[Hp.d9,h k o hk,h' k o hk]
abbrev HP:=Hp→Hp→Prop
abbrev LH:=List HP
def Stars:LH→Hp→Hp→Prop
 | [],_,_=>True
 | p::L,ι,h=>∃ι₀ h₁ h₂,Hp.sub ι₀ ι∧Hp.disj h₁ h₂∧Hp.sub h₁ h∧Hp.sub h₂ h∧p ι₀ h₁∧Stars L ι h₂
def Stars.mono{L:LH}{ι ι' h h' : Hp}(hi:Hp.sub ι ι')(hh:Hp.sub h h')(s:Stars L ι h):Stars L ι' h':=by
 induction L generalizing h h' with
 | nil=>trivial
 | cons p L ih =>
  obtain⟨ι₀,h₁,h₂,a,b,c,d,e,f⟩:=s;exact⟨ι₀,h₁,h₂,a.trans hi,b,c.trans hh,d.trans hh,e,ih (Hp.sub.refl _) f⟩
def Stars.swap{p q:HP}{L:LH}{ι h:Hp}(s:Stars (p::q::L) ι h):Stars (q::p::L) ι h:=by
 obtain⟨ι₁,h₁,h₂,a1,b1,c1,d1,e1,ι₂,h₃,h₄,a2,b2,c2,d2,e2,f2⟩:=s;have a0:Hp.disj h₁ h₄:=b1.mono (Hp.sub.refl _) d2;refine⟨ι₂,h₃,Hp.d9 h₁ h₄,a2,Hp.e9 (b1.mono (Hp.sub.refl _) c2).symm b2,c2.trans d1,Hp.f8 c1 (d2.trans d1),e2,?_⟩;exact⟨ι₁,h₁,h₄,a1,a0,Hp.e7 _ _,Hp.e8 a0,e1,f2⟩
def Stars.perm{L L' : LH}(hp:L.Perm L'):∀{ι h:Hp},Stars L ι h→Stars L' ι h:=by
 induction hp with
 | nil=>exact fun s=>s
 | cons p _ ih=>exact fun⟨ι₀,h₁,h₂,a,b,c,d,e,f⟩=>⟨ι₀,h₁,h₂,a,b,c,d,e,ih f⟩
 | swap p q l=>exact fun s=>s.swap
 | trans _ _ ih1 ih2=>exact fun s=>ih2 (ih1 s)
def Stars.split{A B:LH}{ι h:Hp}(s:Stars (A++B) ι h):∃h₁ h₂,Hp.disj h₁ h₂∧Hp.sub h₁ h∧Hp.sub h₂ h∧Stars A ι h₁∧Stars B ι h₂:=by
 induction A generalizing h with
 | nil=>exact⟨Hp.emp,h,Hp.d8 _,Hp.d7 _,Hp.sub.refl _,trivial,s⟩
 | cons p A ih =>
  obtain⟨ι₀,x₁,x₂,a,b,c,d,e,f⟩:=s;obtain⟨y₁,y₂,g1,g2,g3,g4,g5⟩:=ih f;have h1:Hp.disj x₁ y₁:=b.mono (Hp.sub.refl _) g2;refine⟨Hp.d9 x₁ y₁,y₂,(Hp.e9 (b.mono (Hp.sub.refl _) g3).symm g1.symm).symm,Hp.f8 c (g2.trans d),g3.trans d,?_,g5⟩;exact⟨ι₀,x₁,y₁,a,h1,Hp.e7 _ _,Hp.e8 h1,e,g4⟩
def Stars.d7{A B:LH}{ι h h₁ h₂:Hp}(hd:Hp.disj h₁ h₂)(s1:Hp.sub h₁ h)(s2:Hp.sub h₂ h)(a:Stars A ι h₁)(b:Stars B ι h₂):Stars (A++B) ι h:=by
 induction A generalizing h h₁ with
 | nil=>exact b.mono (Hp.sub.refl _) s2
 | cons p A ih =>
  obtain⟨ι₀,x₁,x₂,a1,b1,c1,d1,e1,f1⟩:=a;have a0:Hp.disj x₂ h₂:=hd.mono d1 (Hp.sub.refl _);refine⟨ι₀,x₁,Hp.d9 x₂ h₂,a1,Hp.e9 b1 (hd.mono c1 (Hp.sub.refl _)),c1.trans s1,Hp.f8 (d1.trans s1) s2,e1,?_⟩;exact ih a0 (Hp.e7 _ _) (Hp.e8 a0) f1
structure Th where
 tape:Nat→Question→Nat
 os:Os
 output:Array (Nat×ByteArray)
 lo:Nat
structure Th.ok (θ:Th) (w:World):Prop where
 tape:w.tape=θ.tape
 os:w.os=θ.os
 output:w.output=θ.output
 drawn:θ.lo≤w.drawn
def Fp{α:Type}:∀(m:Ask α) (w:World),w.drawn≤(w.ask m).2.drawn:=by
 intro m;induction m with
 | done a=>intro w;exact Nat.le_refl _
 | ask what range k ih =>
  intro w;simp only[World.ask];split
  ·exact ih _ w
  ·exact Nat.le_trans (Nat.le_succ _) (ih _ { w with drawn:=w.drawn+1 })
def rT{p:Program}{w w' : World}{at_:Addr}{u:TypeId}{k:Addr}{v:Value}{a0:Bool}{l:List Addr}(h:w.viewStore p at_ u k v a0=.ok (w',l)):w'.drawn=w.drawn:=by
 simp only[World.viewStore,bind,Except.bind,pure,Except.pure,throw,throwThe,MonadExceptOf.throw] at h;repeat' (split at h)
 all_goals first|(simp only[Except.ok.injEq,Prod.mk.injEq] at h;obtain⟨rfl,_⟩:=h;rfl)|cases h
def py{α:Type}{P:Program}:∀(m:Sem α) {w w' : World} {x:α},m.run P w=.ok x w'→w.drawn≤w'.drawn:=by
 intro m;induction m with
 | pure a=>intro w w' x h;simp only[Sem.run,Result.ok.injEq] at h;obtain⟨_,rfl⟩:=h;exact Nat.le_refl _
 | load m a k ih =>
  intro w w' x h;simp only[Sem.run] at h;split at h
  ·exact ih _ h
  ·split at h
   ·exact ih _ h
   ·cases h
 | store m a v k ih =>
  intro w w' x h
  have go:(match w.cell? a with
    | some _ => if w.frozen? a then .halt (.unsupported (.unsafePointer "a write to bytes that a string shares")) w else k.run P (w.setCell a v)
    | none=>match w.farStore P a v (m == .atomic) with
     | .ok (w,_)=>k.run P w
     | .error h=>.halt h w)=Result.ok x w'→w.drawn≤w'.drawn:=by
   intro h;split at h
   ·split at h
    ·cases h
    ·exact ih (w:=w.setCell a v) h
   ·split at h
    ·rename_i h2;unfold World.farStore at h2;split at h2
     ·split at h2
      ·rename_i h3;cases h2;have:=rT h3
       have:=ih h
       omega
      ·cases h2
     ·cases h2
    ·cases h
  cases v;all_goals first|exact go h|(simp only[Sem.run] at h;cases h)
 | new o k ih=>intro w w' x h;exact ih _ (w:={ w with heap:=w.heap.push o }) h
 | shape r k ih=>intro w w' x h;exact ih _ h
 | freeze a n k ih =>
  intro w w' x h;have h1:=ih (w:=w.freeze a n) h;have h2:(w.freeze a n).drawn=w.drawn:=by unfold World.freeze;split<;>rfl
  omega
 | frozen a k ih=>intro w w' x h;exact ih _ h
 | getObj r k ih =>
  intro w w' x h;simp only[Sem.run] at h;split at h
  ·cases h
  ·exact ih _ h
  ·cases h
 | setObj r o k ih =>
  intro w w' x h;simp only[Sem.run] at h;split at h
  ·cases h
  ·exact ih (w:={ w with heap:=w.heap.setIfInBounds r o }) h
  ·cases h
 | choose q k ih =>
  intro w w' x h;simp only[Sem.run] at h;split at h
  ·exact ih _ h
  ·exact Nat.le_trans (Nat.le_succ _) (ih _ h)
 | sys c k ih =>
  intro w w' x h;simp only[Sem.run] at h;have h1:=ih _ h;refine Nat.le_trans ?_ h1;unfold World.sys;have h2:=Fp (Kernel.perform c w.os) w;split
  ·exact Nat.le_refl _
  ·rename_i heq;rw[heq] at h2;exact h2
 | program k ih=>intro w w' x h;exact ih _ h
 | mark m k ih=>intro w w' x h;exact ih h
 | halt h=>intro w w' x h;cases h
def ij(w:World):Hp:=fun k=>w.heap[k]?
def Sat(θ:Th)(L:LH)(w:World):Prop :=
 θ.ok w∧∃ι h,Hp.disj ι h∧Hp.sub ι (ij w)∧Hp.sub h (ij w)∧Stars L ι h
def Sat.perm{θ:Th}{L L' : LH}{w:World}(s:Sat θ L w)(hp:L.Perm L'):Sat θ L' w :=
 let ⟨h0,ι,h,a,b,c,d⟩:=s;⟨h0,ι,h,a,b,c,d.perm hp⟩
def Sat.tail{θ:Th}{p:HP}{L:LH}{w:World}(s:Sat θ (p::L) w):Sat θ L w :=
 let ⟨h0,ι,h,a,b,c,_,_,_,_,_,_,x,_,y⟩:=s;⟨h0,ι,h,a,b,c,y.mono (Hp.sub.refl _) x⟩
def Sat.keep{θ:Th}{L:LH}{w w' : World}(s:Sat θ L w)(ok:θ.ok w')(hk:∀(k:Nat) (o:Obj),w.heap[k]? = some o→w'.heap[k]? = some o):Sat θ L w' :=
 let ⟨_,ι,h,a,b,c,d⟩:=s;⟨ok,ι,h,a,fun k o x=>hk k o (b k o x),fun k o x=>hk k o (c k o x),d⟩
def Sat.drew{θ:Th}{L:LH}{w:World}(s:Sat θ L w):Sat θ L { w with drawn:=w.drawn+1 } :=
 s.keep ⟨s.1.tape,s.1.os,s.1.output,Nat.le_succ_of_le s.1.drawn⟩ (fun _ _ h=>h)
def own(b:Nat)(o:Obj):HP:=fun _ h=>h b=some o
def imm(b:Nat)(o:Obj):HP:=fun ι _=>ι b=some o
def dy(φ:Prop):HP:=fun _ _=>φ
def hex{α:Type}(f:α→HP):HP:=fun ι h=>∃x,f x ι h
def cY(L:LH):HP:=fun ι h=>Stars L ι h
def Sat.own_heap{θ:Th}{b:Nat}{o:Obj}{L:LH}{w:World}(s:Sat θ (own b o::L) w):w.heap[b]? = some o:=by
 obtain⟨_,ι,h,a,b1,c,ι₀,h₁,h₂,d1,d2,d3,d4,d5,d6⟩:=s;exact c b o (d3 b o d5)
def Sat.update{θ:Th}{b:Nat}{o o' : Obj}{L:LH}{w w' : World}(s:Sat θ (own b o::L) w)(ok:θ.ok w')
  (hb:w'.heap[b]? = some o') (hk:∀(k:Nat) (x:Obj),k≠b→w.heap[k]? = some x→w'.heap[k]? = some x):Sat θ (own b o'::L) w':=by
 obtain⟨_,ι,h,a,b1,c,ι₀,h₁,h₂,d1,d2,d3,d4,d5,d6⟩:=s;have a3:h b=some o:=d3 b o d5;have a2:ι b=none:=a.symm b o a3;have a1:h₂ b=none:=d2 b o d5;refine⟨ok,ι,fun k=>if k=b then some o' else h₂ k,?_,?_,?_,ι₀,fun k=>if k=b then some o' else none,h₂,d1,?_,?_,?_,by simp[own],d6⟩
 ·intro k x hx;by_cases a0:k=b
  ·subst a0;rw[a2] at hx;cases hx
  ·simp only[a0,if_false];exact(a.mono (Hp.sub.refl _) d4) k x hx
 ·intro k x hx;by_cases a0:k=b
  ·subst a0;rw[a2] at hx;cases hx
  ·exact hk k x a0 (b1 k x hx)
 ·intro k x hx;by_cases a0:k=b
  ·subst a0;simp at hx;subst hx;exact hb
  ·simp only[a0,if_false] at hx;exact hk k x a0 (c k x (d4 k x hx))
 ·intro k x hx;by_cases a0:k=b
  ·subst a0;exact a1
  ·simp[a0] at hx
 ·intro k x hx;by_cases a0:k=b
  ·simpa [a0] using hx
  ·simp[a0] at hx
 ·intro k x hx;by_cases a0:k=b
  ·subst a0;rw[a1] at hx;cases hx
  ·simpa [a0] using hx
def Sat.fresh{θ:Th}{b:Nat}{o:Obj}{L:LH}{w w' : World}(s:Sat θ L w)(ok:θ.ok w')(hn:w.heap.size≤b)
  (hb:w'.heap[b]? = some o) (hk:∀(k:Nat) (x:Obj),w.heap[k]? = some x→w'.heap[k]? = some x):Sat θ (own b o::L) w':=by
 obtain⟨_,ι,h,a,b1,c,d⟩:=s
 have a1:∀g:Hp,Hp.sub g (ij w)→g b=none:=fun g hg=>by
  cases hx:g b with
  | none=>rfl
  | some x =>
   have h1:w.heap[b]? = some x:=hg b x hx;rw[Array.getElem?_eq_none hn] at h1;cases h1
 have hi:=a1 ι b1;have hh:=a1 h c;refine⟨ok,ι,fun k=>if k=b then some o else h k,?_,fun k x hx=>hk k x (b1 k x hx),?_,Hp.emp,fun k=>if k=b then some o else none,h,Hp.d7 _,?_,?_,?_,by simp[own],d⟩
 ·intro k x hx;by_cases a0:k=b
  ·subst a0;rw[hi] at hx;cases hx
  ·simp only[a0,if_false];exact a k x hx
 ·intro k x hx;by_cases a0:k=b
  ·subst a0;simp at hx;subst hx;exact hb
  ·simp only[a0,if_false] at hx;exact hk k x (c k x hx)
 ·intro k x hx;by_cases a0:k=b
  ·subst a0;exact hh
  ·simp[a0] at hx
 ·intro k x hx;by_cases a0:k=b
  ·simpa [a0] using hx
  ·simp[a0] at hx
 ·intro k x hx;by_cases a0:k=b
  ·subst a0;rw[hh] at hx;cases hx
  ·simpa [a0] using hx
def Sat.alloc{θ:Th}{o:Obj}{L:LH}{w:World}(s:Sat θ L w):Sat θ (own w.heap.size o::L) (w.alloc o) :=
 s.fresh ⟨s.1.tape,s.1.os,s.1.output,s.1.drawn⟩ (Nat.le_refl _) (heap_alloc_new w o) (fun k x hx=>by
  rw[heap_alloc_old w o (Array.getElem?_eq_some_iff.1 hx).1];exact hx)
def Sat.freeze{θ:Th}{b:Nat}{o:Obj}{L:LH}{w:World}(s:Sat θ (own b o::L) w):Sat θ (imm b o::L) w:=by
 obtain⟨ok,ι,h,a,b1,c,ι₀,h₁,h₂,d1,d2,d3,d4,d5,d6⟩:=s;have a1:h₂ b=none:=d2 b o d5;refine⟨ok,fun k=>if k=b then some o else ι k,h₂,?_,?_,d4.trans c,fun k=>if k=b then some o else none,Hp.emp,h₂,?_,Hp.d8 _,Hp.d7 _,Hp.sub.refl _,by simp[imm],d6.mono ?_ (Hp.sub.refl _)⟩
 ·intro k x hx;by_cases a0:k=b
  ·subst a0;exact a1
  ·simp only[a0,if_false] at hx;exact(a.mono (Hp.sub.refl _) d4) k x hx
 ·intro k x hx;by_cases a0:k=b
  ·subst a0;simp at hx;subst hx;exact c k o (d3 k o d5)
  ·simp only[a0,if_false] at hx;exact b1 k x hx
 ·intro k x hx;by_cases a0:k=b
  ·simpa [a0] using hx
  ·simp[a0] at hx
 ·intro k x hx;by_cases a0:k=b
  ·subst a0;have:=a k x hx
   rw[d3 k o d5] at this;cases this
  ·simpa [a0] using hx
def Sat.ofPure{θ:Th}{φ:Prop}{L:LH}{w:World}(s:Sat θ (dy φ::L) w):φ:=by
 obtain⟨_,ι,h,a,b1,c,ι₀,h₁,h₂,d1,d2,d3,d4,d5,d6⟩:=s;exact d5
def Sat.addPure{θ:Th}{φ:Prop}{L:LH}{w:World}(s:Sat θ L w)(h:φ):Sat θ (dy φ::L) w:=by
 obtain⟨ok,ι,h',a,b1,c,d⟩:=s;exact⟨ok,ι,h',a,b1,c,Hp.emp,Hp.emp,h',Hp.d7 _,Hp.d8 _,Hp.d7 _,Hp.sub.refl _,h,d⟩
def Sat.ofHex{θ:Th}{α:Type}{f:α→HP}{L:LH}{w:World}(s:Sat θ (hex f::L) w):∃x,Sat θ (f x::L) w:=by
 obtain⟨ok,ι,h,a,b1,c,ι₀,h₁,h₂,d1,d2,d3,d4,⟨x,d5⟩,d6⟩:=s;exact⟨x,ok,ι,h,a,b1,c,ι₀,h₁,h₂,d1,d2,d3,d4,d5,d6⟩
def Sat.e8{θ:Th}{α:Type}{f:α→HP}{L:LH}{w:World}(x:α)(s:Sat θ (f x::L) w):Sat θ (hex f::L) w:=by
 obtain⟨ok,ι,h,a,b1,c,ι₀,h₁,h₂,d1,d2,d3,d4,d5,d6⟩:=s;exact⟨ok,ι,h,a,b1,c,ι₀,h₁,h₂,d1,d2,d3,d4,⟨x,d5⟩,d6⟩
def Sat.ofStars{θ:Th}{A L:LH}{w:World}(s:Sat θ (cY A::L) w):Sat θ (A++L) w:=by
 obtain⟨ok,ι,h,a,b1,c,ι₀,h₁,h₂,d1,d2,d3,d4,d5,d6⟩:=s;exact⟨ok,ι,h,a,b1,c,Stars.d7 d2 d3 d4 (Stars.mono d1 (Hp.sub.refl _) d5) d6⟩
def Sat.d7{θ:Th}{A L:LH}{w:World}(s:Sat θ (A++L) w):Sat θ (cY A::L) w:=by
 obtain⟨ok,ι,h,a,b1,c,d⟩:=s;obtain⟨h₁,h₂,g1,g2,g3,g4,g5⟩:=d.split;exact⟨ok,ι,h,a,b1,c,ι,h₁,h₂,Hp.sub.refl _,g1,g2,g3,g4,g5⟩
def Pers(A:HP):Prop:=∀ι h,A ι h→A ι Hp.emp
def Sat.dup{θ:Th}{A:HP}(hA:Pers A){L:LH}{w:World}(s:Sat θ (A::L) w):Sat θ (A::A::L) w:=by
 obtain⟨ok,ι,h,a,b1,c,ι₀,h₁,h₂,d1,d2,d3,d4,d5,d6⟩:=s;exact⟨ok,ι,h,a,b1,c,ι₀,Hp.emp,h,d1,Hp.d8 _,Hp.d7 _,Hp.sub.refl _,hA _ _ d5,ι₀,h₁,h₂,d1,d2,d3,d4,d5,d6⟩
def Ent(L L' : LH):Prop:=∀θ R w,Sat θ (L++R) w→Sat θ (L'++R) w
def Ent.refl(L:LH):Ent L L:=fun _ _ _ h=>h
def Ent.trans{A B C:LH}(h:Ent A B)(k:Ent B C):Ent A C:=fun θ R w s=>k θ R w (h θ R w s)
def Ent.perm{L L' : LH}(h:L.Perm L'):Ent L L':=fun _ R _ s=>s.perm (h.append_right R)
def Ent.drop{p:HP}{L:LH}:Ent (p::L) L:=fun _ _ _ s=>s.tail
def Ent.cons{p:HP}{L L' : LH}(h:Ent L L'):Ent (p::L) (p::L'):=fun θ R w s =>
 ((h θ (p::R) w ((show Sat θ (p::(L++R)) w from s).perm List.perm_middle.symm)).perm List.perm_middle)
def Ent.append{A B C D:LH}(h:Ent A B)(k:Ent C D):Ent (A++C) (B++D):=by
 intro θ R w s;rw[List.append_assoc] at s ⊢;have s1:=h θ _ w s;have s2:Sat θ (C++(B++R)) w:=s1.perm (by rw[←List.append_assoc,←List.append_assoc];exact List.perm_append_comm.append_right R);have s3:=k θ _ w s2;exact s3.perm (by rw[←List.append_assoc,←List.append_assoc];exact List.perm_append_comm.append_right R)
def Ent.nil(L:LH):Ent L []:=by
 intro θ R w s;induction L with
 | nil=>exact s
 | cons p L ih=>exact ih s.tail
abbrev Env:=List (Nat×Value)
structure EnvOk (N:Nat) (env:Env) (a:Act):Prop where
 size:a.tmps.size=N
 at_:∀t v,env.lookup t=some v→a.tmps[t]? = some v
def evE(env:Env):Operand→Option Value
 | .tmp t=>env.lookup t
 | .const v=>some v
 | .global g=>some (.pointer (some ⟨g,0,none⟩))
 | .func f=>some (.func (.func f) #[] #[])
def Agr(env:Env)(ρ:Operand→Value):Prop:=∀x v,evE env x=some v→ρ x=v
def aP{env:Env}{ρ:Operand→Value}(h:Agr env ρ){x:Operand}{v:Value}(hx:evE env x=some v):ρ x=v:=h x v hx
def EnvOk.agr{N:Nat}{env:Env}{a:Act}(h:EnvOk N env a):Agr env a.eval:=by
 intro x v hx;cases x with
 | tmp t=>have:=h.at_ t v hx;simp[Act.eval,this]
 | const c=>simpa [evE,Act.eval] using hx
 | global g=>simpa [evE,Act.eval] using hx
 | func f=>simpa [evE,Act.eval] using hx
def fT(env:Env):List Operand→Option (LV)
 | []=>some []
 | x::r=>match evE env x,fT env r with
  | some v,some vs=>some (v::vs)
  | _,_=>none
def kX(env:Env):List (Nat×Operand)→Option (List (Nat×Value))
 | []=>some []
 | (i,x)::r=>match evE env x,kX env r with
  | some v,some vs=>some ((i,v)::vs)
  | _,_=>none
def Agr.list{env:Env}{ρ:Operand→Value}(h:Agr env ρ):∀(l:List Operand) (vs:LV),fT env l=some vs→l.map ρ=vs:=by
 intro l;induction l with
 | nil=>intro vs hv;simp[fT] at hv;simp[hv]
 | cons x l ih =>
  intro vs hv;simp only[fT] at hv;split at hv
  ·rename_i v us h1 h2;simp at hv;subst hv;simp[h x v h1,ih us h2]
  ·cases hv
def Agr.pairs{env:Env}{ρ:Operand→Value}(h:Agr env ρ):∀(l:List (Nat×Operand)) (vs:List (Nat×Value)),kX env l=some vs→l.map (fun p=>(p.1,ρ p.2))=vs:=by
 intro l;induction l with
 | nil=>intro vs hv;simp[kX] at hv;simp[hv]
 | cons x l ih =>
  intro vs hv;obtain⟨i,x⟩:=x;simp only[kX] at hv;split at hv
  ·rename_i v us h1 h2;simp at hv;subst hv;simp[h x v h1,ih us h2]
  ·cases hv
def EnvOk.put{N:Nat}{env:Env}{a:Act}(h:EnvOk N env a){d:Nat}(hd:d<N)(v:Value):EnvOk N ((d,v)::env) (a.put (some d) v):=by
 refine⟨by simp[Act.put,h.size],?_⟩;intro t u ht;simp only[List.lookup_cons] at ht;by_cases a0:t=d
 ·subst a0;simp at ht;subst ht;simp[Act.put,h.size,hd]
 ·have hb:(t == d)=false:=by simpa using a0
  simp only[hb] at ht;simp only[Act.put];rw[Array.getElem?_setIfInBounds_ne (Ne.symm a0)];exact h.at_ t u ht
def EnvSub(env env' : Env):Prop:=∀t v,env'.lookup t=some v→env.lookup t=some v
def EnvOk.less{N:Nat}{env env' : Env}{a:Act}(h:EnvOk N env a)(hs:EnvSub env env'):EnvOk N env' a:=⟨h.size,fun t v x=>h.at_ t v (hs t v x)⟩
def EnvSub.refl(env:Env):EnvSub env env:=fun _ _ h=>h
def EnvSub.nil(env:Env):EnvSub env []:=fun _ _ h=>by cases h
def EnvSub.cons{env env' : Env}{d:Nat}{v:Value}(h:env.lookup d=some v)(hs:EnvSub env env'):EnvSub env ((d,v)::env'):=by
 intro t u ht;simp only[List.lookup_cons] at ht;by_cases a0:t=d
 ·subst a0;simp at ht;subst ht;exact h
 ·have hb:(t == d)=false:=by simpa using a0
  simp only[hb] at ht;exact hs t u ht
abbrev Post:=Exit→Env→LH→Prop
def FW(r:Option Nat):Fence:={ Fence.wide with round:=r }
def oN{r:Option Nat}{n:Nat}{P:Program}{f:FuncId}{args:Array Value}{w:World}{R:Ending→World→Prop}(h:Calls P f args w R):CallsIn (FW r) n P f args w R :=
 (callsIn_wide (n:=n)).2 h
def mkD(M:List Nat):List Deferred:=M.map fun D=>{ target:=.collected D,args:=#[] }
def mkH(M:List Nat):LH:=M.map fun D=>own D (.deferred (some []))
def GS(r:Option Nat)(Y:LH):Prop:=∀l,r=some l→∃a0 Y',Y.Perm (own l (.loop a0)::Y')
def At(N:Nat)(env:Env)(L:LH)(θ:Th)(Y:LH)(a:Act)(w:World):Prop:=∃M,EnvOk N env a∧a.defers=mkD M∧Sat θ (L++(mkH M++Y)) w
def QK(θ:Th)(Y:LH)(N:Nat)(K:Post):Exit→Act→World→Prop:=fun e a w=>∃env L,At N env L θ Y a w∧K e env L
def G(P:Program)(N:Nat)(c:Code)(env:Env)(L:LH)(K:Post):Prop :=
 ∀r θ Y a w,GS r Y→At N env L θ Y a w→c.wpIn (FW r) 0 P (QK θ Y N K) a w
def GO(P:Program)(N:Nat)(a0:Array Oper)(l:List Oper)(env:Env)(L:LH)(K:Post):Prop :=
 ∀r θ Y a w,GS r Y→At N env L θ Y a w→wpListIn (FW r) 0 P a0 (QK θ Y N K) l a w
def Post.seq(n:Env→LH→Prop)(K:Post):Post:=fun e=>match e with
 | .normal=>n
 | e=>K e
def Post.inBlock(id:Nat)(K:Post):Post:=fun e=>match e with
 | .exit id'=>if id' = id then K .normal else K (.exit id')
 | e=>K e
section rules
variable {P:Program}{N:Nat}{env:Env}{L:LH}{K:Post}
def At.less{θ:Th}{Y:LH}{a:Act}{w:World}{env' : Env}{L' : LH}(h:At N env L θ Y a w)(he:EnvSub env env')(hl:Ent L L'):At N env' L' θ Y a w :=
 let ⟨M,ea,hd,s⟩:=h;⟨M,ea.less he,hd,hl θ _ w s⟩
def At.eok{θ:Th}{Y:LH}{a:Act}{w:World}(h:At N env L θ Y a w):EnvOk N env a:=let ⟨_,ea,_,_⟩:=h;ea
def At.agr{θ:Th}{Y:LH}{a:Act}{w:World}(h:At N env L θ Y a w):Agr env a.eval:=h.eok.agr
def At.put{θ:Th}{Y:LH}{a:Act}{w:World}(h:At N env L θ Y a w){d:Nat}(hd:d<N)(v:Value):At N ((d,v)::env) L θ Y (a.put (some d) v) w :=
 let ⟨M,ea,hm,s⟩:=h;⟨M,ea.put hd v,hm,s⟩
def G.conseq{c:Code}{env' : Env}{L' : LH}(h:G P N c env' L' K)(he:EnvSub env env')(hl:Ent L L'):G P N c env L K :=
 fun r θ Y a w hr i=>h r θ Y a w hr (i.less he hl)
def G.mono{c:Code}{K' : Post}(h:G P N c env L K)(hk:∀e env L,K e env L→K' e env L):G P N c env L K' :=
 fun r θ Y a w hr i=>wpIn_mono (h r θ Y a w hr i) fun _ _ _ ⟨env',L',x,z⟩=>⟨env',L',x,hk _ _ _ z⟩
def At.open_{α:Type}{φ:α→Prop}{L' : α→LH}(h:∀θ R w,Sat θ (L++R) w→∃x,φ x∧Sat θ (L' x++R) w){θ:Th}{Y:LH}{a:Act}{w:World}(i:At N env L θ Y a w):∃x,φ x∧At N env (L' x) θ Y a w :=
 let ⟨M,ea,hm,s⟩:=i;let ⟨x,hx,s'⟩:=h θ _ w s;⟨x,hx,M,ea,hm,s'⟩
def G.open_{α:Type}{c:Code}{φ:α→Prop}{L' : α→LH}(h:∀θ R w,Sat θ (L++R) w→∃x,φ x∧Sat θ (L' x++R) w)
  (k:∀x,φ x→G P N c env (L' x) K):G P N c env L K:=fun r θ Y a w hr i =>
 let ⟨x,hx,i'⟩:=i.open_ h;k x hx r θ Y a w hr i'
def GO.conseq{a0:Array Oper}{l:List Oper}{env' : Env}{L' : LH}(h:GO P N a0 l env' L' K)(he:EnvSub env env')(hl:Ent L L'):GO P N a0 l env L K :=
 fun r θ Y a w hr i=>h r θ Y a w hr (i.less he hl)
def GO.open_{α:Type}{a0:Array Oper}{l:List Oper}{φ:α→Prop}{L' : α→LH}(h:∀θ R w,Sat θ (L++R) w→∃x,φ x∧Sat θ (L' x++R) w)
  (k:∀x,φ x→GO P N a0 l env (L' x) K):GO P N a0 l env L K:=fun r θ Y a w hr i =>
 let ⟨x,hx,i'⟩:=i.open_ h;k x hx r θ Y a w hr i'
def G.seq{x y:Code}(h:G P N x env L (K.seq fun env' L'=>G P N y env' L' K)):G P N (.seq x y) env L K:=by
 intro r θ Y a w hr i;refine wpIn_seq (wpIn_mono (h r θ Y a w hr i) ?_);rintro e a' w' ⟨env',L',i',hk⟩;cases e with
 | normal=>exact hk r θ Y a' w' hr i'
 | exit id=>exact⟨env',L',i',hk⟩
 | goto l=>exact⟨env',L',i',hk⟩
 | ret=>exact⟨env',L',i',hk⟩
 | panic ch=>exact⟨env',L',i',hk⟩
 | outgrown=>exact⟨env',L',i',hk⟩
def G.mid{x y:Code}(M:Env→LH→Prop)(h:G P N x env L (K.seq M))(h' : ∀env' L',M env' L'→G P N y env' L' K):G P N (.seq x y) env L K :=
 G.seq (h.mono fun e env L hk=>by cases e<;>first|exact h' _ _ hk|exact hk)
def G.block{id:Nat}{c:Code}(h:G P N c env L (K.inBlock id)):G P N (.block id c) env L K:=by
 intro r θ Y a w hr i;refine wpIn_block (wpIn_mono (h r θ Y a w hr i) ?_);rintro e a' w' ⟨env',L',i',hk⟩;cases e with
 | exit id' =>
  simp only[Post.inBlock] at hk;simp only[Exit.inBlock];split
  ·rename_i he;rw[if_pos he] at hk;exact⟨env',L',i',hk⟩
  ·rename_i he;rw[if_neg he] at hk;exact⟨env',L',i',hk⟩
 | normal=>exact⟨env',L',i',hk⟩
 | goto l=>exact⟨env',L',i',hk⟩
 | ret=>exact⟨env',L',i',hk⟩
 | panic ch=>exact⟨env',L',i',hk⟩
 | outgrown=>exact⟨env',L',i',hk⟩
def G.skip(h:K .normal env L):G P N .skip env L K:=fun _ _ _ _ _ _ i=>wpIn_skip ⟨env,L,i,h⟩
def G.ret(h:K .ret env L):G P N .ret env L K:=fun _ _ _ _ _ _ i=>wpIn_ret ⟨env,L,i,h⟩
def G.exit{id:Nat}(h:K (.exit id) env L):G P N (.exit id) env L K:=fun _ _ _ _ _ _ i=>wpIn_exit ⟨env,L,i,h⟩
def G.l0{c:Operand}{x y:Code}(hc:evE env c=some (.bool true))(h:G P N x env L K):G P N (.cond c x y) env L K :=
 fun r θ Y a w hr i=>wpIn_cond_true (aP i.agr hc) (h r θ Y a w hr i)
def G.j0{c:Operand}{x y:Code}(hc:evE env c=some (.bool false))(h:G P N y env L K):G P N (.cond c x y) env L K :=
 fun r θ Y a w hr i=>wpIn_cond_false (aP i.agr hc) (h r θ Y a w hr i)
def G.l5{c:Operand}{x y:Code}{b:Bool}(hc:evE env c=some (.bool b))(h:b=true→G P N x env L K)(h' : b=false→G P N y env L K):G P N (.cond c x y) env L K:=by
 cases b with
 | true=>exact G.l0 hc (h rfl)
 | false=>exact G.j0 hc (h' rfl)
def G.region{id:Nat}{l:List Oper}(h:GO P N l.toArray l env L K):G P N (.region id l.toArray false) env L K :=
 fun r θ Y a w hr i=>wpIn_region_lit (h r θ Y a w hr i)
def rO{F:Fence}{n:Nat}{Q:Exit→Act→World→Prop}{a:Act}{w:World}{c:Code}(I:Nat→Act→World→Prop)(n₀:Nat)(h₀:I n₀ a w)
  (round:∀m a w,I m a w→c.wpIn F n P (Exit.then (fun a' w'=>∃n',n' < m∧I n' a' w') Q) a w):(Code.loop c).wpIn F n P Q a w:=by
 refine wpIn_loop (fun a w=>∃n,I n a w) (fun a w=>leastOf (fun n=>I n a w)) ⟨n₀,h₀⟩ ?_;intro a w hI;refine wpIn_mono (round _ a w (leastOf_spec hI).1) ?_;intro e a' w' hq;cases e with
 | normal =>
  obtain⟨n',a1,a0⟩:=hq;exact show(∃n,I n a' w')∧leastOf (fun n=>I n a' w')<leastOf (fun n=>I n a w) from⟨⟨n',a0⟩,Nat.lt_of_le_of_lt ((leastOf_spec ⟨n',a0⟩).2 n' a0) a1⟩
 | exit id=>exact hq
 | goto l=>exact hq
 | ret=>exact hq
 | panic ch=>exact hq
 | outgrown=>exact hq
def G.loop{α:Type}{c:Code}(Inv:α→Prop)(e:α→Env)(l:α→LH)(m:α→Nat)(x₀:α)(h₀:Inv x₀)(he:EnvSub env (e x₀))(hl:Ent L (l x₀))
  (round:∀x,Inv x→G P N c (e x) (l x) (K.seq fun env' L'=>∃x',Inv x'∧m x' < m x∧EnvSub env' (e x')∧Ent L' (l x'))):G P N (.loop c) env L K:=by
 intro r θ Y a w hr i;refine rO (fun n a w=>∃x,m x=n∧Inv x∧At N (e x) (l x) θ Y a w) (m x₀) ⟨x₀,rfl,h₀,i.less he hl⟩ ?_;rintro n a w ⟨x,rfl,hx,i⟩;refine wpIn_mono (round x hx r θ Y a w hr i) ?_;rintro ex a' w' ⟨env',L',i',hk⟩;cases ex with
 | normal=>obtain⟨x',i1,i2,i3,i4⟩:=hk;exact⟨m x',i2,x',rfl,i1,i'.less i3 i4⟩
 | exit id=>exact⟨env',L',i',hk⟩
 | goto l=>exact⟨env',L',i',hk⟩
 | ret=>exact⟨env',L',i',hk⟩
 | panic ch=>exact⟨env',L',i',hk⟩
 | outgrown=>exact⟨env',L',i',hk⟩
def GO.nil{a0:Array Oper}(h:K .normal env L):GO P N a0 [] env L K:=fun _ _ _ _ _ _ i=>wpListIn_nil ⟨env,L,i,h⟩
def Ev(P:Program)(L:LH)(env:Env)(op:Op)(ty:TypeId)(v:Value):Prop :=
 ∀θ R ρ w o,Agr env ρ→Sat θ (L++R) w→o.op=op→o.type=ty→(execOp ρ o).run P w=.ok (.value v) w
def Ev.mk{op:Op}{ty:TypeId}{v:Value}(h:∀θ R ρ w,Agr env ρ→Sat θ (L++R) w→∀a0 pos af g,(execOp ρ ⟨a0,op,ty,pos,af,g⟩).run P w=.ok (.value v) w):Ev P L env op ty v:=by
 rintro θ R ρ w ⟨a0,a1,a2,pos,af,g⟩ ha s rfl rfl;exact h θ R ρ w ha s a0 pos af g
def Ev.any{op:Op}{ty:TypeId}{v:Value}(h:Ev P [] env op ty v):Ev P L env op ty v :=
 fun θ R ρ w o ha s h1 h2=>h θ (L++R) ρ w o ha s h1 h2
def Ef(P:Program)(L:LH)(env:Env)(op:Op)(ty:TypeId)(post:Value→LH→Prop):Prop :=
 ∀θ R a w o next Q,Agr env a.eval→Sat θ (L++R) w→o.op=op→o.type=ty→(∀v L' w',post v L'→Sat θ (L'++R) w'→next (a.put o.dst v) w')→Oper.wp P o a w next Q
def Ef.val{op:Op}{ty:TypeId}{post:Value→LH→Prop}(h:∀θ R ρ w,Agr env ρ→Sat θ (L++R) w→∀a0 pos af g,∃v w' L',(execOp ρ ⟨a0,op,ty,pos,af,g⟩).run P w=.ok (.value v) w'∧post v L'∧Sat θ (L'++R) w'):Ef P L env op ty post:=by
 rintro θ R a w ⟨a0,a1,a2,pos,af,g⟩ next Q ha s rfl rfl hn
 obtain⟨v,w',L',h1,h2,h3⟩:=h θ R a.eval w ha s a0 pos af g;rw[Oper.wp,h1,Oper.upon_value];exact hn v L' w' h2 h3
def Ef.skip{op:Op}{ty:TypeId}{post:Value→LH→Prop}(h:∀θ R ρ w,Agr env ρ→Sat θ (L++R) w→∀a0 pos af g,∃w' L',(execOp ρ ⟨a0,op,ty,pos,af,g⟩).run P w=.ok .skip w'∧post undef L'∧Sat θ (L'++R) w'):Ef P L env op ty post:=by
 rintro θ R a w ⟨a0,a1,a2,pos,af,g⟩ next Q ha s rfl rfl hn
 obtain⟨w',L',h1,h2,h3⟩:=h θ R a.eval w ha s a0 pos af g;rw[Oper.wp,h1,Oper.upon_skip];exact hn undef L' w' h2 h3
def Ev.ef{op:Op}{ty:TypeId}{v:Value}(h:Ev P L env op ty v):Ef P L env op ty (fun u L'=>u=v∧L' = L):=by
 intro θ R a w o next Q ha s h1 h2 hn
 rw[Oper.wp,h θ R a.eval w o ha s h1 h2,Oper.upon_value];exact hn v L w ⟨rfl,rfl⟩ s
def defers_put(a:Act)(d:Option Tmp)(v:Value):(a.put d v).defers=a.defers:=by cases d<;>rfl
def Ef.noDefer{op:Op}{ty:TypeId}{post:Value→LH→Prop}(he:Ef P L env op ty post){θ:Th}{R:LH}{a:Act}{w:World}(ha:Agr env a.eval)(s:Sat θ (L++R) w):∀c,op≠.defer c:=by
 rintro c rfl;have h := he θ R a w ⟨none, .defer c, ty, "", #[], none⟩ (fun a' _ => a'.defers = a.defers) (fun _ _ _ => False) ha s rfl rfl (fun v L' w' _ _ => defers_put _ _ _)
 unfold Oper.wp at h;simp only[execOp] at h;rw[Sem.run_bind] at h;cases hr:(resolve a.eval c ty).run P w with
 | ok d w' =>
  rw[hr] at h;simp only[Result.andThen_ok,Sem.run_pure,Oper.upon,Act.put] at h;exact absurd (congrArg List.length h) (by simp)
 | halt x w' =>
  rw[hr] at h;cases x<;>simp[Result.andThen,Oper.upon] at h
def mm{r:Option Nat}{o:Oper}{a:Act}{w:World}{next:Act→World→Prop}{Q:Exit→Act→World→Prop}(hd:∀c,o.op≠.defer c)(h:o.wp P a w next Q):o.wpIn (FW r) 0 P a w next Q:=by
 refine⟨fun _ _=>trivial,?_⟩;rw[Oper.semAt_eq _ _ _ hd];unfold Oper.wp at h;generalize (execOp a.eval o).run P w=x at h;cases x with
 | ok y w' =>
  cases y<;>simp only[Oper.upon] at h<;>simp only[Oper.uponIn]
  all_goals first
   | exact h
   | exact h.elim
   | exact⟨(fun h=>by cases h),oN (by exact h)⟩
   | exact⟨(fun h=>by cases h),fun c cs _=>(h c cs).imp fun v hv=>hv.imp fun a0 hw=>⟨hw.1,stepsIn_wide.2 hw.2⟩⟩
 | halt y w'=>cases y<;>simp only[Oper.upon] at h<;>simp only[Oper.uponIn]<;>first|exact h|exact h.elim
def GO.ef{a0:Array Oper}{rest:List Oper}{d:Nat}{op:Op}{ty:TypeId}{pos:String}{af:Array Edge}{post:Value→LH→Prop}(he:Ef P L env op ty post)(hd:d<N)
  (h:∀v L',post v L'→GO P N a0 rest ((d,v)::env) L' K):GO P N a0 (⟨some d,op,ty,pos,af,none⟩::rest) env L K:=by
 intro r θ Y a w hr i;refine wpListIn_plain rfl fun K' hK=>?_;obtain⟨M,ea,hm,s⟩:=i;exact mm (he.noDefer ea.agr s) (he θ _ a w _ K' _ ea.agr s rfl rfl fun v L' w' hp s'=>hK _ _ (h v L' hp r θ Y _ _ hr ⟨M,ea.put hd _,by rw[defers_put];exact hm,s'⟩))
def GO.efu{a0:Array Oper}{rest:List Oper}{op:Op}{ty:TypeId}{pos:String}{af:Array Edge}{post:Value→LH→Prop}(he:Ef P L env op ty post)
  (h:∀v L',post v L'→GO P N a0 rest env L' K):GO P N a0 (⟨none,op,ty,pos,af,none⟩::rest) env L K:=by
 intro r θ Y a w hr i;refine wpListIn_plain rfl fun K' hK=>?_;obtain⟨M,ea,hm,s⟩:=i;exact mm (he.noDefer ea.agr s) (he θ _ a w _ K' _ ea.agr s rfl rfl fun v L' w' hp s'=>hK _ _ (h v L' hp r θ Y _ _ hr ⟨M,ea,hm,s'⟩))
def GO.ev{a0:Array Oper}{rest:List Oper}{d:Nat}{op:Op}{ty:TypeId}{pos:String}{af:Array Edge}{v:Value}(he:Ev P L env op ty v)(hd:d<N)
  (h:GO P N a0 rest ((d,v)::env) L K):GO P N a0 (⟨some d,op,ty,pos,af,none⟩::rest) env L K :=
 GO.ef he.ef hd (by rintro _ _⟨rfl,rfl⟩;exact h)
def GO.e8{a0:Array Oper}{rest:List Oper}{a1:Option Tmp}{op:Op}{ty:TypeId}{pos:String}{af:Array Edge}{j t:Nat}{b:Bool}
  (hj:(a0[j]?).bind (·.dst)=some t) (ht:env.lookup t=some (.bool b))
  (h:GO P N a0 (⟨a1,op,ty,pos,af,none⟩::rest) env L K):GO P N a0 (⟨a1,op,ty,pos,af,some (j,b)⟩::rest) env L K:=by
 intro r θ Y a w hr i;have h1:=h r θ Y a w hr i
 have hy:yielded a0 a.tmps j=some b:=by
  unfold yielded;rw[hj];simp[i.eok.at_ t _ ht]
 simp only[wpListIn,Region.wanted,hy,beq_self_eq_true,if_true] at h1 ⊢;exact h1
def GO.f8{a0:Array Oper}{rest:List Oper}{d:Nat}{op:Op}{ty:TypeId}{pos:String}{af:Array Edge}{j t:Nat}{b c:Bool}
  (hj:(a0[j]?).bind (·.dst)=some t) (ht:env.lookup t=some (.bool c)) (hb:(c == b)=false) (hd:d<N)
  (h:GO P N a0 rest ((d,undef)::env) L K):GO P N a0 (⟨some d,op,ty,pos,af,some (j,b)⟩::rest) env L K:=by
 intro r θ Y a w hr i;have h1:=h r θ Y (a.put (some d) undef) w hr (i.put hd _)
 have hy:yielded a0 a.tmps j=some c:=by
  unfold yielded;rw[hj];simp[i.eok.at_ t _ ht]
 have a1:(some c == some b)=false:=by cases c<;>cases b<;>simp_all
 simp only[wpListIn,Region.wanted,hy,a1] at h1 ⊢;exact⟨fun _ _=>trivial,h1⟩
def GO.e7{a0:Array Oper}{rest:List Oper}{d:Nat}{op:Op}{ty:TypeId}{pos:String}{af:Array Edge}{j t:Nat}{b:Bool}
  (hj:(a0[j]?).bind (·.dst)=some t) (ht:env.lookup t=some undef) (hd:d<N)
  (h:GO P N a0 rest ((d,undef)::env) L K):GO P N a0 (⟨some d,op,ty,pos,af,some (j,b)⟩::rest) env L K:=by
 intro r θ Y a w hr i;have h1:=h r θ Y (a.put (some d) undef) w hr (i.put hd _)
 have hy:yielded a0 a.tmps j=none:=by
  unfold yielded;rw[hj];simp[i.eok.at_ t _ ht,undef]
 simp only[wpListIn,Region.wanted,hy] at h1 ⊢;exact⟨fun _ _=>trivial,h1⟩
end rules
def Enters(P:Program)(f:FuncId):Prop:=∀args w,(callFunc f args).run P w=.ok (.enter f args) w
structure Tri (P:Program) (f:FuncId) (args:Array Value) (L:LH) (post:Value→LH→Prop):Prop where
 enters:Enters P f
 calls:∀θ R w,Sat θ (L++R) w→Calls P f args w fun e w'=>∃v L',e=.returned v∧post v L'∧Sat θ (L'++R) w'
def Tri.mono{P:Program}{f:FuncId}{args:Array Value}{L:LH}{post post' : Value→LH→Prop}(h:Tri P f args L post)(hp:∀v L,post v L→post' v L):Tri P f args L post' :=
 ⟨h.enters,fun θ R w s=>(h.calls θ R w s).mono fun _ _ ⟨v,L',a,b,c⟩=>⟨v,L',a,hp _ _ b,c⟩⟩
def Tri.pre{P:Program}{f:FuncId}{args:Array Value}{L L' : LH}{post:Value→LH→Prop}(h:Tri P f args L' post)(hl:Ent L L'):Tri P f args L post :=
 ⟨h.enters,fun θ R w s=>h.calls θ R w (hl θ R w s)⟩
def env0(args:LV)(k:Nat):Env:=match args with
 | []=>[]
 | v::r=>(k,v)::env0 r (k+1)
def qZ(args:LV)(k t:Nat):(env0 args k).lookup t=if k≤t then args[t - k]? else none:=by
 induction args generalizing k with
 | nil=>simp[env0]
 | cons v r ih =>
  simp only[env0,List.lookup_cons];by_cases h:t=k
  ·subst h;simp
  ·have hb:(t == k)=false:=by simpa using h
   simp only[hb,ih];by_cases hk:k+1≤t
   ·rw[if_pos hk,if_pos (by omega),show t - k=(t - (k+1))+1 by omega];simp
   ·rw[if_neg hk,if_neg (by omega)]
def resE(env:Env):List ResultVar→Option (LV)
 | []=>some []
 | .tmp t::r=>match env.lookup t,resE env r with
  | some v,some vs=>some (v::vs)
  | _,_=>none
 | .cell _ _::_=>none
def resV:LV→Value
 | [v]=>v
 | vs=>.tuple vs.toArray
def Hn{P:Program}{N:Nat}{env:Env}{a:Act}(h:EnvOk N env a)(w:World)(g:ResultVar→Sem Value)(hg:∀t,g (ResultVar.tmp t)=Sem.pure (a.tmps.getD t undef)) :
  ∀(rs:List ResultVar) (vs:LV),resE env rs=some vs→(rs.mapM g).run P w=Result.ok vs w:=by
 intro rs;induction rs with
 | nil=>intro vs hv;simp[resE] at hv;subst hv;simp
 | cons r rs ih =>
  intro vs hv;cases r with
  | cell x t=>simp[resE] at hv
  | tmp t =>
   simp only[resE] at hv;split at hv
   ·rename_i v ws h1 h2;simp at hv;subst hv;have h3:=h.at_ t v h1;simp[List.mapM_cons,ih ws h2,hg,h3]
   ·cases hv
def ResOk(P:Program)(N:Nat)(env:Env)(L:LH)(rs:List ResultVar)(vs:LV):Prop :=
 ∀θ R a w,EnvOk N env a→Sat θ (L++R) w→∀g:ResultVar→Sem Value,(∀t,g (ResultVar.tmp t)=Sem.pure (a.tmps.getD t undef))→(∀x t,g (ResultVar.cell x t)=(do loadVar t (← asAddr (a.tmps.getD x undef))))→(rs.mapM g).run P w=Result.ok vs w
def ResOk.tmps{P:Program}{N:Nat}{env:Env}{L:LH}{rs:List ResultVar}{vs:LV}(h:resE env rs=some vs):ResOk P N env L rs vs:=fun _ _ _ w ea _ g hg _=>Hn ea w g hg rs vs h
def ResOk.nil{P:Program}{N:Nat}{env:Env}{L:LH}:ResOk P N env L [] []:=ResOk.tmps rfl
def ResOk.tmp{P:Program}{N:Nat}{env:Env}{L:LH}{rs:List ResultVar}{vs:LV}{t:Nat}{v:Value}(h:env.lookup t=some v)(hr:ResOk P N env L rs vs):ResOk P N env L (.tmp t::rs) (v::vs):=by
 intro θ R a w ea s g h1 h2;have h3:=ea.at_ t v h;simp[List.mapM_cons,hr θ R a w ea s g h1 h2,h1,h3]
def kd{P:Program}{N:Nat}{env:Env}{L R:LH}{θ:Th}{a:Act}{fn:Func}(h:EnvOk N env a){w:World}(s:Sat θ (L++R) w){rs:List ResultVar}{vs:LV}(hf:fn.results=rs.toArray)(hv:ResOk P N env L rs vs) :
  (results fn a.tmps).run P w=.ok (resV vs) w:=by
 unfold results;rw[hf];simp only[List.mapM_toArray,Sem.run_bind,Sem.run_map];rw[hv θ R a w h s _ (fun t=>rfl) (fun x t=>rfl)];simp only[Result.andThen_ok,Sem.run_pure];congr 1;match vs with
 | []=>rfl
 | [v]=>rfl
 | v::u::r=>simp[resV]
def Ends(P:Program)(N:Nat)(rs:List ResultVar)(post:Value→LH→Prop):Post:=fun e env L=>(e=.ret∨e=.normal)∧∀θ R w,Sat θ (L++R) w→∃vs L',ResOk P N env L rs vs∧Sat θ (L'++R) w∧post (resV vs) L'
def pG{P:Program}{fn:Func}{tmps:Array Value}{R:Ending→World→Prop}{θ:Th}{Y:LH}:∀(M:List Nat) (w:World),Sat θ (mkH M++Y) w→(∀w',Sat θ Y w'→LeavesIn Fence.wide 0 P fn tmps R [] .returning w')→LeavesInM Fence.wide 0 P fn tmps R (mkD M) .returning w
 | [],w,s,h=>h w s
 | D::M,w,s,h=>by
  have s0:Sat θ (own D (.deferred (some []))::(mkH M++Y)) w:=s;have hb:=s0.own_heap;refine⟨by simp,.inl ⟨D,{ w with heap:=w.heap.setIfInBounds D (.deferred none) },rfl,?_,?_⟩⟩
  ·simp[Instr.takeDeferred,getObj,setObj,Sem.run,hb,bind,Sem.bind,pure]
  ·have a0:D<w.heap.size:=(Array.getElem?_eq_some_iff.1 hb).1
   have s1:Sat θ (own D (.deferred none)::(mkH M++Y)) { w with heap:=w.heap.setIfInBounds D (.deferred none) }:=by
    refine s0.update ⟨s.1.tape,s.1.os,s.1.output,s.1.drawn⟩ (by simp[a0]) ?_;intro k x hk hx;simp only[Array.getElem?_setIfInBounds];rw[if_neg (fun e=>hk e.symm)];exact hx
   exact pG M _ s1.tail h
def Tri.body{P:Program}{f:FuncId}{fn:Func}{c:Code}{args:LV}{L:LH}{post:Value→LH→Prop}{rs:List ResultVar}(N:Nat)
  (he:Enters P f) (hf:P.funcs[f]? = some fn) (hb:fn.body=some c) (hr:fn.results=rs.toArray) (hN:fn.ntmps=N) (a7 : args.length≤N)
  (h:G P N c (env0 args 0) L (Ends P N rs post)):Tri P f args.toArray L post:=by
 refine⟨he,fun θ R w s=>(callsIn_wide (n:=0)).1 (callsIn_of_wp_marks hf hb trivial ?_)⟩
 have ea:EnvOk N (env0 args 0) { tmps:=args.toArray++Array.replicate (fn.ntmps - args.toArray.size) undef,defers:=[] }:=by
  refine⟨by simp[hN];omega,?_⟩;intro t v ht;rw[qZ] at ht;simp at ht;have a5:t<args.length:=(List.getElem?_eq_some_iff.1 ht).1;rw[Array.getElem?_append_left (by simpa using a5)];simpa using ht
 refine wpIn_mono (h none θ R _ w (fun l hl=>by cases hl) ⟨[],ea,rfl,s⟩) ?_;rintro e a' w' ⟨env',L',⟨M,a4,hm,s'⟩,hex,a2⟩
 have a0:LeavesInM Fence.wide 0 P fn a'.tmps (fun e w'=>∃v L',e=.returned v∧post v L'∧Sat θ (L'++R) w') a'.defers .returning w':=by
  rw[hm]
  have s1:Sat θ (mkH M++(L'++R)) w':=s'.perm (by
   rw[←List.append_assoc,←List.append_assoc];exact List.perm_append_comm.append_right R)
  refine pG M w' s1 fun w₂ s₂=>?_;obtain⟨vs,L'',a6,a3,a1⟩:=a2 θ R w₂ s₂;exact⟨_,kd (P:=P) a4 s₂ hr a6,_,L'',rfl,a1,a3⟩
 rcases hex with rfl|rfl
 ·exact a0
 ·exact a0
def Ef.call{P:Program}{env:Env}{L R' : LH}{f:FuncId}{xs:Array Operand}{ats:Array TypeId}{ty:TypeId}{vs:LV}{pre:LH}{post:Value→LH→Prop}
  (c:Tri P f vs.toArray pre post) (hv:fT env xs.toList=some vs) (hL:Ent L (pre++R')) :
  Ef P L env (.call { callee:=.value (.func f),args:=xs,argTypes:=ats }) ty (fun v L'=>∃L₁,post v L₁∧L' = L₁++R'):=by
 rintro θ R a w ⟨a2,a4,a3,pos,af,g⟩ next Q ha s rfl rfl hn
 have a0:xs.map a.eval=vs.toArray:=by
  apply Array.ext';simpa using ha.list xs.toList vs hv
 have a1:(execOp a.eval ⟨a2,.call { callee:=.value (.func f),args:=xs,argTypes:=ats },a3,pos,af,g⟩).run P w=.ok (.enter f vs.toArray) w:=by
  simp[execOp,resolve,Deferred.ofValue,Act.eval,invoke,a0];exact c.enters _ _
 rw[Oper.wp,a1,Oper.upon_enter];refine(c.calls θ (R'++R) w (by rw[←List.append_assoc];exact hL θ R w s)).mono ?_;rintro e w' ⟨v,L',rfl,hp,s'⟩;exact hn v _ w' ⟨L',hp,rfl⟩ (by rw[List.append_assoc];exact s')
def dB(p:Prop)[Decidable p]:Bool:=decide p
def eY(p:Prop)[Decidable p]:dB p=decide p:=rfl
attribute [irreducible] dB
def aZ{p:Prop}[Decidable p](h:p):dB p=true:=by rw[eY];exact decide_eq_true h
def aM{p:Prop}[Decidable p](h:¬p):dB p=false:=by rw[eY];exact decide_eq_false h
def CB(b:Bool)(p q:Prop):Prop:=(b=true→p)∧(b=false→q)
def CB.tt{p q:Prop}(h:p):CB true p q:=⟨fun _=>h,fun h=>by cases h⟩
def CB.ff{p q:Prop}(h:q):CB false p q:=⟨fun h=>(by cases h),fun _=>h⟩
def CB.dec{φ:Prop}[Decidable φ]{p q:Prop}(h:φ→p)(h' : ¬φ→q):CB (dB φ) p q:=⟨fun e=>h (of_decide_eq_true (by rw[←eY];exact e)),fun e=>h' (of_decide_eq_false (by rw[←eY];exact e))⟩
def CB.pos{φ:Prop}[Decidable φ]{p q:Prop}(hφ:φ)(h:p):CB (dB φ) p q:=CB.dec (fun _=>h) (fun e=>absurd hφ e)
def CB.neg{φ:Prop}[Decidable φ]{p q:Prop}(hφ:¬φ)(h:q):CB (dB φ) p q:=CB.dec (fun e=>absurd e hφ) (fun _=>h)
def CB.bool{b:Bool}{p q:Prop}(h:b=true→p)(h' : b=false→q):CB b p q:=⟨h,h'⟩
def GB(b:Bool)(p p' q q' : Prop):Prop:=(b=true→p∨p')∧(b=false→q∨q')
def GB.tt{p p' q q' : Prop}(h:p):GB true p p' q q':=⟨fun _=>.inl h,fun h=>by cases h⟩
def GB.ff{p p' q q' : Prop}(h:q):GB false p p' q q':=⟨fun h=>(by cases h),fun _=>.inl h⟩
def GB.dec{φ:Prop}[Decidable φ]{p p' q q' : Prop}(h:φ→p')(h' : ¬φ→q'):GB (dB φ) p p' q q':=⟨fun e=>.inr (h (of_decide_eq_true (by rw[←eY];exact e))),fun e=>.inr (h' (of_decide_eq_false (by rw[←eY];exact e)))⟩
def GB.pos{φ:Prop}[Decidable φ]{p p' q q' : Prop}(hφ:φ)(h:p'):GB (dB φ) p p' q q':=GB.dec (fun _=>h) (fun e=>absurd hφ e)
def GB.neg{φ:Prop}[Decidable φ]{p p' q q' : Prop}(hφ:¬φ)(h:q'):GB (dB φ) p p' q q':=GB.dec (fun e=>absurd e hφ) (fun _=>h)
def GB.bool{b:Bool}{p p' q q' : Prop}(h:b=true→p')(h' : b=false→q'):GB b p p' q q':=⟨fun e=>.inr (h e),fun e=>.inr (h' e)⟩
def G.cond{P:Program}{N:Nat}{env:Env}{L:LH}{K:Post}{c:Operand}{x y:Code}{b:Bool}(hc:evE env c=some (.bool b))(h:CB b (G P N x env L K) (G P N y env L K)):G P N (.cond c x y) env L K :=
 G.l5 hc h.1 h.2
def GO.g9{P:Program}{N:Nat}{env:Env}{L:LH}{K:Post}{a0:Array Oper}{rest:List Oper}{d:Nat}{op:Op}{ty:TypeId}{pos:String}{af:Array Edge}{j t:Nat}{c:Bool}
  (hj:(a0[j]?).bind (·.dst)=some t) (ht:env.lookup t=some (.bool c)) (hd:d<N)
  (h:GB c (GO P N a0 (⟨some d,op,ty,pos,af,none⟩::rest) env L K) (GO P N a0 (⟨some d,op,ty,pos,af,none⟩::rest) ((t,.bool true)::env) L K) (GO P N a0 rest ((d,undef)::env) L K) (GO P N a0 rest ((d,undef)::(t,.bool false)::env) L K)) :
  GO P N a0 (⟨some d,op,ty,pos,af,some (j,true)⟩::rest) env L K:=by
 cases c with
 | true=>exact GO.e8 hj ht ((h.1 rfl).elim id fun h=>h.conseq (EnvSub.cons ht (EnvSub.refl _)) (Ent.refl _))
 | false=>exact GO.f8 hj ht rfl hd ((h.2 rfl).elim id fun h=>h.conseq (by
   intro u v hu;simp only[List.lookup_cons] at hu ⊢;split
   ·rename_i e;simp only[e] at hu;exact hu
   ·rename_i e;simp only[e] at hu;split at hu
    ·rename_i e2;rw[beq_iff_eq] at e2;subst e2;rw[ht];exact hu
    ·exact hu) (Ent.refl _))
def GO.j0{P:Program}{N:Nat}{env:Env}{L:LH}{K:Post}{a0:Array Oper}{rest:List Oper}{d:Nat}{op:Op}{ty:TypeId}{pos:String}{af:Array Edge}{j t:Nat}{c:Bool}
  (hj:(a0[j]?).bind (·.dst)=some t) (ht:env.lookup t=some (.bool c)) (hd:d<N)
  (h:GB c (GO P N a0 rest ((d,undef)::env) L K) (GO P N a0 rest ((d,undef)::(t,.bool true)::env) L K) (GO P N a0 (⟨some d,op,ty,pos,af,none⟩::rest) env L K) (GO P N a0 (⟨some d,op,ty,pos,af,none⟩::rest) ((t,.bool false)::env) L K)) :
  GO P N a0 (⟨some d,op,ty,pos,af,some (j,false)⟩::rest) env L K:=by
 cases c with
 | false=>exact GO.e8 hj ht ((h.2 rfl).elim id fun h=>h.conseq (EnvSub.cons ht (EnvSub.refl _)) (Ent.refl _))
 | true=>exact GO.f8 hj ht rfl hd ((h.1 rfl).elim id fun h=>h.conseq (by
   intro u v hu;simp only[List.lookup_cons] at hu ⊢;split
   ·rename_i e;simp only[e] at hu;exact hu
   ·rename_i e;simp only[e] at hu;split at hu
    ·rename_i e2;rw[beq_iff_eq] at e2;subst e2;rw[ht];exact hu
    ·exact hu) (Ent.refl _))
section kx
variable {P:Program}{N:Nat}{env:Env}{L:LH}{K:Post}{n:Env→LH→Prop}
def KX.l6{id:Nat}(h:K (.exit id) env L):Post.seq n K (.exit id) env L:=h
def KX.l8(h:K .ret env L):Post.seq n K .ret env L:=h
def KX.g9(h:n env L):Post.seq n K .normal env L:=h
def KX.l0{y:Code}(h:G P N y env L K):Post.seq (fun env' L'=>G P N y env' L' K) K .normal env L:=h
def KX.j0{id:Nat}(h:K .normal env L):Post.inBlock id K (.exit id) env L:=by simpa [Post.inBlock] using h
def KX.f8{id a0 : Nat}(a1:a0≠id)(h:K (.exit a0) env L):Post.inBlock id K (.exit a0) env L:=by simpa [Post.inBlock,a1] using h
def KX.l5{id:Nat}(h:K .ret env L):Post.inBlock id K .ret env L:=h
def KX.d8{id:Nat}(h:K .normal env L):Post.inBlock id K .normal env L:=h
def KX.d7{rs:List ResultVar}{post:Value→LH→Prop}{vs:LV}{L' : LH}(h1:ResOk P N env L rs vs)(h2:Ent L L')(h3:post (resV vs) L'):Ends P N rs post .ret env L:=⟨.inl rfl,fun θ R w s=>⟨vs,L',h1,h2 θ R w s,h3⟩⟩
def KX.e7{rs:List ResultVar}{post:Value→LH→Prop}{vs:LV}{L' : LH}(h1:ResOk P N env L rs vs)(h2:Ent L L')(h3:post (resV vs) L'):Ends P N rs post .normal env L:=⟨.inr rfl,fun θ R w s=>⟨vs,L',h1,h2 θ R w s,h3⟩⟩
def KX.l7{rs:List ResultVar}{post:Value→LH→Prop}{e:Exit}{φ:Prop}(he:e=.ret∨e=.normal)(h:∀θ R w,Sat θ (L++R) w→φ)(k:φ→Ends P N rs post e env L):Ends P N rs post e env L:=⟨he,fun θ R w s=>(k (h θ R w s)).2 θ R w s⟩
def KX.ent{rs:List ResultVar}{post:Value→LH→Prop}{vs:LV}{L' : LH}(a0:ResOk P N env L rs vs)(a1:Ent L L')(h3:Ends P N rs post .ret env L):Ends P N rs post .ret env L:=h3
end kx
end
section
class TyOne (P:Program) (T:Nat):Prop where
 run:∀w,(isAgg T).run P w=.ok false w
 size:(P.info? T).map (·.size)=some 1
class TyAgg (P:Program) (T:Nat) (n:outParam Nat):Prop where
 run:∀w,(isAgg T).run P w=.ok true w
 size:(P.info? T).map (·.size)=some n
class TySl (P:Program) (T:Nat) (E sz by_:outParam Nat) (z:outParam (LV)):Prop where
 under:P.underlying T=some (.slice E)
 info:(P.info? E).map (fun i=>(i.zero.map (·.cells.toList),i.size,i.bytes))=some (some z,sz,by_)
 zlen:z.length=sz
 pos:0<sz
class TyInt (P:Program) (T:Nat) (k:outParam IntKind):Prop where
 under:P.underlying T=some (.int k)
class TyPtr (P:Program) (T:Nat):Prop where
 under:∃e,P.underlying T=some (.pointer e)
class TyStr (P:Program) (T:Nat):Prop where
 under:P.underlying T=some .string
class Fld (P:Program) (T f:Nat) (off:outParam Nat):Prop where
 run:∃fs fd i,P.underlying T=some (.struct fs)∧fs[f]? = some fd∧fd.offset=off∧P.info? fd.type=some i∧i.size≠0
def AW(P:Program)(f:Nat):TypeDesc→Option (Nat×Option Nat)
 | .struct fs=>(fs[f]?).map fun fd=>(fd.offset,(P.info? fd.type).map (·.size))
 | _=>none
theorem Fld.of{P:Program}{T f off:Nat}(sz:Nat)(h:(P.underlying T).map (AW P f)=some (some (off,some (sz+1)))):Fld P T f off:=by
 cases hu:P.underlying T with
 | none=>rw[hu] at h;cases h
 | some d =>
  rw[hu] at h;cases d<;>simp[AW] at h;rename_i fs;obtain⟨fd,h1,h2,i,h3,h4⟩:=h;exact⟨fs,fd,i,hu,h1,h2,h3,by omega⟩
class TyMap (P:Program) (T:Nat) (K E:outParam Nat):Prop where
 under:P.underlying T=some (.map K E)
def rr(P:Program):TypeDesc→Option (List (Nat×Option Nat))
 | .struct fs=>some (fs.toList.map fun fd=>(fd.offset,(P.info? fd.type).map (·.size)))
 | _=>none
class TyStruct (P:Program) (T:Nat) (pl:outParam (List (Nat×Nat))):Prop where
 eq:(P.underlying T).map (rr P)=some (some (pl.map fun p=>(p.1,some p.2)))
def TyOne.sizeOf_run{P:Program}{T:Nat}[h:TyOne P T](w:World):(sizeOf T).run P w=.ok 1 w:=by
 have h1:=h.size;cases hi:P.info? T with
 | none=>rw[hi] at h1;cases h1
 | some i=>rw[hi] at h1;simp at h1;simp[sizeOf,typeInfo,hi,h1]
def TyAgg.sizeOf_run{P:Program}{T n:Nat}[h:TyAgg P T n](w:World):(sizeOf T).run P w=.ok n w:=by
 have h1:=h.size;cases hi:P.info? T with
 | none=>rw[hi] at h1;cases h1
 | some i=>rw[hi] at h1;simp at h1;simp[sizeOf,typeInfo,hi,h1]
def TySl.parts{P:Program}{T E sz by_:Nat}{z:LV}(h:TySl P T E sz by_ z):∃i z0,P.info? E=some i∧i.zero=some z0∧z0.cells.toList=z∧i.size=sz∧i.bytes=by_:=by
 have h1:=h.info;cases hi:P.info? E with
 | none=>rw[hi] at h1;cases h1
 | some i =>
  rw[hi] at h1;simp at h1;obtain⟨⟨z0,hz,a0⟩,h2,h3⟩:=h1;exact⟨i,z0,rfl,hz,a0,h2,h3⟩
class EncC {α:Type} (enc:α→LV):Prop where
 one:∀x,∀u∈enc x,u.oneCell' = true
def obj(b T:Nat)(cs:LV):HP:=own b (.cells cs.toArray T (0,0))
def osl{α:Type}(enc:α→LV)(sz E:Nat)(ad:OA)(cap:Nat)(xs:List α):HP:=fun _ h =>
 (∀x∈xs,(enc x).length=sz)∧xs.length≤cap∧cap≤maxLen ∧
 ((ad=none∧cap=0)∨∃g a0,ad=some ⟨g,0,none⟩∧h g=some (.cells a0 E (0,0))∧a0.size=cap*sz∧a0.toList.take (xs.length*sz)=xs.flatMap enc)
def isl{α:Type}(enc:α→LV)(sz:Nat)(ad:OA)(xs:List α):HP:=fun ι _ =>
 (∀x∈xs,(enc x).length=sz) ∧
 (xs=[]∨∃g off a0 E fz,ad=some ⟨g,off,none⟩∧ι g=some (.cells a0 E fz)∧∀i v,(xs.flatMap enc)[i]? = some v→a0[off+i]? = some v)
def RdSl{α:Type}(w:World)(enc:α→LV)(sz:Nat)(ad:OA)(xs:List α):Prop :=
 (∀x∈xs,(enc x).length=sz) ∧
 (xs=[]∨∃a,ad=some a∧∀i v,(xs.flatMap enc)[i]? = some v→w.cell? (a.add i)=some v)
class PickObj (L:LH) (b:Nat) (T:outParam Nat) (cs:outParam (LV)) (R:outParam (LH)):Prop where
 perm:L.Perm (obj b T cs::R)
instance (L:LH)(b T:Nat)(cs:LV):PickObj (obj b T cs::L) b T cs L:=⟨List.Perm.refl _⟩
instance (A:HP)(L:LH)(b T:Nat)(cs:LV)(R:LH)[h:PickObj L b T cs R]:PickObj (A::L) b T cs (A::R):=⟨(h.perm.cons A).trans (List.Perm.swap _ _ _)⟩
class PickOsl (L:LH) (ad:OA) (α:outParam Type) (enc:outParam (α→LV)) (sz E:outParam Nat) (cap:outParam Nat) (xs:outParam (List α)) (R:outParam (LH)):Prop where
 perm:L.Perm (osl enc sz E ad cap xs::R)
instance {α:Type}(L:LH)(enc:α→LV)(sz E:Nat)(ad:OA)(cap:Nat)(xs:List α):PickOsl (osl enc sz E ad cap xs::L) ad α enc sz E cap xs L:=⟨List.Perm.refl _⟩
instance {α:Type}(A:HP)(L:LH)(enc:α→LV)(sz E:Nat)(ad:OA)(cap:Nat)(xs:List α)(R:LH)[h:PickOsl L ad α enc sz E cap xs R]:PickOsl (A::L) ad α enc sz E cap xs (A::R):=⟨(h.perm.cons A).trans (List.Perm.swap _ _ _)⟩
class Rds (L:LH) (ad:OA) (α:outParam Type) (enc:outParam (α→LV)) (sz:outParam Nat) (xs:outParam (List α)):Prop where
 rd:∀θ R w,Sat θ (L++R) w→RdSl w enc sz ad xs
def vn(a:Addr):a.add 0=a:=by simp[Addr.add]
def gB(g i:Nat):(⟨g,0,none⟩:Addr).add i=⟨g,i,none⟩:=by unfold Addr.add;split<;>simp_all
def jG(g o i:Nat):(⟨g,o,none⟩:Addr).add i=⟨g,o+i,none⟩:=by unfold Addr.add;split<;>simp_all
def eV{w:World}{g:Nat}{a0:Array Value}{E:TypeId}{fz:Nat×Nat}(h:w.heap[g]? = some (.cells a0 E fz))(i:Nat):w.cell? ⟨g,i,none⟩=a0[i]?:=by simp[World.cell?,h]
def Sat.osl_parts{α:Type}{θ:Th}{enc:α→LV}{sz E:Nat}{ad:OA}{cap:Nat}{xs:List α}{L:LH}{w:World}(s:Sat θ (osl enc sz E ad cap xs::L) w) :
  (∀x∈xs,(enc x).length=sz)∧xs.length≤cap∧cap≤maxLen ∧
  ((ad=none∧cap=0)∨∃g a0,ad=some ⟨g,0,none⟩∧a0.size=cap*sz∧a0.toList.take (xs.length*sz)=xs.flatMap enc∧Sat θ (own g (.cells a0 E (0,0))::L) w):=by
 obtain⟨ok,ι,h,a,b1,c,ι₀,h₁,h₂,d1,d2,d3,d4,⟨e1,e2,e3,e4⟩,d6⟩:=s;refine⟨e1,e2,e3,?_⟩;rcases e4 with e4|⟨g,a0,f1,f2,f3,f4⟩
 ·exact .inl e4
 ·exact .inr ⟨g,a0,f1,f3,f4,ok,ι,h,a,b1,c,ι₀,h₁,h₂,d1,d2,d3,d4,f2,d6⟩
def Sat.osl_mk{α:Type}{θ:Th}{enc:α→LV}{sz E:Nat}{g cap:Nat}{a0:Array Value}{xs:List α}{L:LH}{w:World}(s:Sat θ (own g (.cells a0 E (0,0))::L) w)
  (h1:∀x∈xs,(enc x).length=sz) (h2:xs.length≤cap) (h3:cap≤maxLen) (h4:a0.size=cap*sz) (h5:a0.toList.take (xs.length*sz)=xs.flatMap enc):Sat θ (osl enc sz E (some ⟨g,0,none⟩) cap xs::L) w:=by
 obtain⟨ok,ι,h,a,b1,c,ι₀,h₁,h₂,d1,d2,d3,d4,d5,d6⟩:=s;exact⟨ok,ι,h,a,b1,c,ι₀,h₁,h₂,d1,d2,d3,d4,⟨h1,h2,h3,.inr ⟨g,a0,rfl,d5,h4,h5⟩⟩,d6⟩
def Sat.e9{α:Type}{θ:Th}(enc:α→LV)(sz E:Nat){L:LH}{w:World}(s:Sat θ L w):Sat θ (osl enc sz E none 0 []::L) w:=by
 obtain⟨ok,ι,h',a,b1,c,d⟩:=s;exact⟨ok,ι,h',a,b1,c,Hp.emp,Hp.emp,h',Hp.d7 _,Hp.d8 _,Hp.d7 _,Hp.sub.refl _,⟨by simp,by simp,by simp,.inl ⟨rfl,rfl⟩⟩,d⟩
def fe{α:Type}{enc:α→LV}{sz:Nat}{xs:List α}(h:∀x∈xs,(enc x).length=sz):(xs.flatMap enc).length=xs.length*sz:=by
 induction xs with
 | nil=>simp
 | cons x xs ih =>
  simp only[List.flatMap_cons,List.length_append,List.length_cons,ih (fun y hy=>h y (List.mem_cons_of_mem _ hy)),h x List.mem_cons_self,Nat.add_mul];omega
def oJ{α:Type}[Inhabited α]{enc:α→LV}{sz:Nat}{xs:List α}(h:∀x∈xs,(enc x).length=sz){j o:Nat}(hj:j<xs.length)(ho:o<sz):(xs.flatMap enc)[j*sz+o]? = (enc xs[j]!)[o]?:=by
 induction xs generalizing j with
 | nil=>simp at hj
 | cons x xs ih =>
  have hx:=h x List.mem_cons_self;have hr:=fun y hy=>h y (List.mem_cons_of_mem x hy);cases j with
  | zero =>
   simp only[List.flatMap_cons,Nat.zero_mul,Nat.zero_add];rw[List.getElem?_append_left (by omega)];simp
  | succ j =>
   simp only[List.flatMap_cons];rw[List.getElem?_append_right (by rw[hx,Nat.add_mul];omega),hx,show(j+1)*sz+o - sz=j*sz+o by rw[Nat.add_mul];omega,ih hr (by simpa using hj)];simp
def Sat.osl_rd{α:Type}{θ:Th}{enc:α→LV}{sz E:Nat}{ad:OA}{cap:Nat}{xs:List α}{L:LH}{w:World}(s:Sat θ (osl enc sz E ad cap xs::L) w):RdSl w enc sz ad xs:=by
 obtain⟨h1,h2,h3,h4⟩:=s.osl_parts;refine⟨h1,?_⟩;rcases h4 with⟨rfl,rfl⟩|⟨g,a0,rfl,f1,f2,f3⟩
 ·exact .inl (List.eq_nil_of_length_eq_zero (by omega))
 ·refine .inr ⟨_,rfl,fun i v hv=>?_⟩;rw[gB,eV f3.own_heap];rw[←f2,List.getElem?_take] at hv;split at hv
  ·simpa using hv
  ·cases hv
def Sat.isl_rd{α:Type}{θ:Th}{enc:α→LV}{sz:Nat}{ad:OA}{xs:List α}{L:LH}{w:World}(s:Sat θ (isl enc sz ad xs::L) w):RdSl w enc sz ad xs:=by
 obtain⟨ok,ι,h,a,b1,c,ι₀,h₁,h₂,d1,d2,d3,d4,⟨e1,e2⟩,d6⟩:=s;refine⟨e1,?_⟩;rcases e2 with e2|⟨g,off,a0,E,fz,rfl,f1,f2⟩
 ·exact .inl e2
 ·refine .inr ⟨_,rfl,fun i v hv=>?_⟩;have hb:w.heap[g]? = some (.cells a0 E fz):=b1 g _ (d1 g _ f1);rw[jG,eV hb];exact f2 i v hv
instance {α:Type}(L:LH)(enc:α→LV)(sz E:Nat)(ad:OA)(cap:Nat)(xs:List α):Rds (osl enc sz E ad cap xs::L) ad α enc sz xs:=⟨fun _ _ _ s=>Sat.osl_rd s⟩
instance {α:Type}(L:LH)(enc:α→LV)(sz:Nat)(ad:OA)(xs:List α):Rds (isl enc sz ad xs::L) ad α enc sz xs:=⟨fun _ _ _ s=>Sat.isl_rd s⟩
instance {α:Type}(A:HP)(L:LH)(enc:α→LV)(sz:Nat)(ad:OA)(xs:List α)[h:Rds L ad α enc sz xs]:Rds (A::L) ad α enc sz xs:=⟨fun θ R w s=>h.rd θ R w s.tail⟩
def Sat.freezeSl{α:Type}{θ:Th}{enc:α→LV}{sz E:Nat}{ad:OA}{cap:Nat}{xs:List α}{L:LH}{w:World}(s:Sat θ (osl enc sz E ad cap xs::L) w):Sat θ (isl enc sz ad xs::L) w:=by
 obtain⟨h1,h2,h3,h4⟩:=s.osl_parts;rcases h4 with⟨rfl,rfl⟩|⟨g,a0,rfl,f1,f2,f3⟩
 ·have hx:xs=[]:=List.eq_nil_of_length_eq_zero (by omega);subst hx;obtain⟨ok,ι,h',a,b1,c,d⟩:=s.tail;exact⟨ok,ι,h',a,b1,c,Hp.emp,Hp.emp,h',Hp.d7 _,Hp.d8 _,Hp.d7 _,Hp.sub.refl _,⟨by simp,.inl rfl⟩,d⟩
 ·obtain⟨ok,ι,h,a,b1,c,ι₀,h₁,h₂,d1,d2,d3,d4,d5,d6⟩:=f3.freeze;refine⟨ok,ι,h,a,b1,c,ι₀,h₁,h₂,d1,d2,d3,d4,⟨h1,.inr ⟨g,0,a0,E,(0,0),rfl,d5,?_⟩⟩,d6⟩;intro i v hv;rw[←f2,List.getElem?_take] at hv;split at hv
  ·simpa using hv
  ·cases hv
def lF{α:Type}(enc:α→LV)(sz:Nat)(ad:OA)(xs:List α):Pers (isl enc sz ad xs):=fun _ _ h=>h
def elP(ad:OA)(sz j off:Nat):OA:=ad.map (·.add (j*sz+off))
section ops
variable {P:Program}{N:Nat}{env:Env}{L:LH}{K:Post}{ty:TypeId}{pos:String}{af:Array Edge}
def Ev.move{x:Operand}{v:Value}(hx:evE env x=some v):Ev P L env (.move x) ty (v) :=
 Ev.mk (fun _ _ _ _ ea _ _ _ _ _=>by simp[execOp,aP ea hx])
def Ev.assign{x:Operand}{v:Value}(hx:evE env x=some v):Ev P L env (.assign x) ty (v) :=
 Ev.mk (fun _ _ _ _ ea _ _ _ _ _=>by simp[execOp,aP ea hx])
def Ev.r5{c x y:Operand}{v:Value}(hc:evE env c=some (.bool true))(hx:evE env x=some v):Ev P L env (.pick c x y) ty (v) :=
 Ev.mk (fun _ _ _ _ ea _ _ _ _ _=>by simp[execOp,aP ea hc,aP ea hx,asBool])
def Ev.q9{c x y:Operand}{v:Value}(hc:evE env c=some (.bool false))(hy:evE env y=some v):Ev P L env (.pick c x y) ty (v) :=
 Ev.mk (fun _ _ _ _ ea _ _ _ _ _=>by simp[execOp,aP ea hc,aP ea hy,asBool])
def Ev.extract{x:Operand}{l:LV}{i:Nat}{v:Value}(hx:evE env x=some (.tuple l.toArray))(hi:l[i]? = some v):Ev P L env (.extract x i) ty (v) :=
 Ev.mk (fun _ _ _ _ ea _ _ _ _ _=>by simp[execOp,aP ea hx,Instr.extract,hi])
def kD{n:Int}(h0 : -9223372036854775808≤n)(h1:n≤9223372036854775807):IntKind.i64.wrap n=n:=by
 exact IntWalk.i64_in _ ⟨h0,h1⟩
def mH{a0:Option Tmp}{g:Option (Nat×Bool)}{op:BinOp}{k:IntKind}{t yt:TypeId}{x y:Operand}{a b:Int}{ρ:Operand→Value}{w:World}{b' : Bool}(hx:ρ x=.int k a)(hy:ρ y=.int k b)
  (a1:(binOp op t (.int k a) (.int k b)).run P w=.ok (.bool b') w):(execOp ρ ⟨a0,.binOp op t x y yt,ty,pos,af,g⟩).run P w=.ok (.value (.bool b')) w:=by
 simp[execOp,hx,hy,a1,eqGuard]
def iz{a0:Option Tmp}{g:Option (Nat×Bool)}{op:BinOp}{k k' : IntKind}{t yt:TypeId}{x y:Operand}{a b c:Int}{ρ:Operand→Value}{w:World}(hx:ρ x=.int k a)(hy:ρ y=.int k' b)
  (a1:(binOp op t (.int k a) (.int k' b)).run P w=.ok (.int k c) w):(execOp ρ ⟨a0,.binOp op t x y yt,ty,pos,af,g⟩).run P w=.ok (.value (.int k c)) w:=by
 simp[execOp,hx,hy,a1,eqGuard]
def Ev.eql{t yt:TypeId}{x y:Operand}{k:IntKind}{a b:Int}(hx:evE env x=some (.int k a))(hy:evE env y=some (.int k b)):Ev P L env (.binOp .eql t x y yt) ty (.bool (dB (a=b))) :=
 Ev.mk (fun _ _ _ w ea _ _ _ _ _=>mH (aP ea hx) (aP ea hy) (by simp[binOp,Op.intCmp,BEq.beq,eY]))
def Ev.neq{t yt:TypeId}{x y:Operand}{k:IntKind}{a b:Int}(hx:evE env x=some (.int k a))(hy:evE env y=some (.int k b)):Ev P L env (.binOp .neq t x y yt) ty (.bool (dB (¬a=b))) :=
 Ev.mk (fun _ _ _ w ea _ _ _ _ _=>mH (aP ea hx) (aP ea hy) (by simp[binOp,Op.intCmp,bne,BEq.beq,eY]))
def Ev.lss{t yt:TypeId}{x y:Operand}{k:IntKind}{a b:Int}(hx:evE env x=some (.int k a))(hy:evE env y=some (.int k b)):Ev P L env (.binOp .lss t x y yt) ty (.bool (dB (a<b))) :=
 Ev.mk (fun _ _ _ w ea _ _ _ _ _=>mH (aP ea hx) (aP ea hy) (by simp[binOp,Op.intCmp,eY]))
def Ev.leq{t yt:TypeId}{x y:Operand}{k:IntKind}{a b:Int}(hx:evE env x=some (.int k a))(hy:evE env y=some (.int k b)):Ev P L env (.binOp .leq t x y yt) ty (.bool (dB (a≤b))) :=
 Ev.mk (fun _ _ _ w ea _ _ _ _ _=>mH (aP ea hx) (aP ea hy) (by simp[binOp,Op.intCmp,eY]))
def Ev.gtr{t yt:TypeId}{x y:Operand}{k:IntKind}{a b:Int}(hx:evE env x=some (.int k a))(hy:evE env y=some (.int k b)):Ev P L env (.binOp .gtr t x y yt) ty (.bool (dB (b<a))) :=
 Ev.mk (fun _ _ _ w ea _ _ _ _ _=>mH (aP ea hx) (aP ea hy) (by simp[binOp,Op.intCmp,eY]))
def Ev.geq{t yt:TypeId}{x y:Operand}{k:IntKind}{a b:Int}(hx:evE env x=some (.int k a))(hy:evE env y=some (.int k b)):Ev P L env (.binOp .geq t x y yt) ty (.bool (dB (b≤a))) :=
 Ev.mk (fun _ _ _ w ea _ _ _ _ _=>mH (aP ea hx) (aP ea hy) (by simp[binOp,Op.intCmp,eY]))
def Ev.add{t yt:TypeId}{x y:Operand}{a b:Int}(hx:evE env x=some (.int .i64 a))(hy:evE env y=some (.int .i64 b))(h0 : -9223372036854775808≤a+b)(h1:a+b≤9223372036854775807):Ev P L env (.binOp .add t x y yt) ty (.int .i64 (a+b)) :=
 Ev.mk (fun _ _ _ w ea _ _ _ _ _=>iz (aP ea hx) (aP ea hy) (by simp[binOp,Op.intArith,kD h0 h1]))
def Ev.sub{t yt:TypeId}{x y:Operand}{a b:Int}(hx:evE env x=some (.int .i64 a))(hy:evE env y=some (.int .i64 b))(h0 : -9223372036854775808≤a - b)(h1:a - b≤9223372036854775807):Ev P L env (.binOp .sub t x y yt) ty (.int .i64 (a - b)) :=
 Ev.mk (fun _ _ _ w ea _ _ _ _ _=>iz (aP ea hx) (aP ea hy) (by simp[binOp,Op.intArith,kD h0 h1]))
def Ev.mul{t yt:TypeId}{x y:Operand}{a b:Int}(hx:evE env x=some (.int .i64 a))(hy:evE env y=some (.int .i64 b))(h0 : -9223372036854775808≤a*b)(h1:a*b≤9223372036854775807):Ev P L env (.binOp .mul t x y yt) ty (.int .i64 (a*b)) :=
 Ev.mk (fun _ _ _ w ea _ _ _ _ _=>iz (aP ea hx) (aP ea hy) (by simp[binOp,Op.intArith,kD h0 h1]))
def Ev.B9{t yt:TypeId}{x y:Operand}{k:IntKind}{a b:Int}(hx:evE env x=some (.int k a))(hy:evE env y=some (.int k b)):Ev P L env (.binOp .add t x y yt) ty (.int k (k.wrap (a+b))) :=
 Ev.mk (fun _ _ _ w ea _ _ _ _ _=>iz (aP ea hx) (aP ea hy) (by simp[binOp,Op.intArith]))
def Ev.B2{t yt:TypeId}{x y:Operand}{k:IntKind}{a b:Int}(hx:evE env x=some (.int k a))(hy:evE env y=some (.int k b)):Ev P L env (.binOp .sub t x y yt) ty (.int k (k.wrap (a - b))) :=
 Ev.mk (fun _ _ _ w ea _ _ _ _ _=>iz (aP ea hx) (aP ea hy) (by simp[binOp,Op.intArith]))
def Ev.C5{t yt:TypeId}{x y:Operand}{k:IntKind}{a b:Int}(hx:evE env x=some (.int k a))(hy:evE env y=some (.int k b)):Ev P L env (.binOp .mul t x y yt) ty (.int k (k.wrap (a*b))) :=
 Ev.mk (fun _ _ _ w ea _ _ _ _ _=>iz (aP ea hx) (aP ea hy) (by simp[binOp,Op.intArith]))
def yo{a b:Int}(h0 : -9223372036854775808≤a)(h1:a≤9223372036854775807)(hb:0<b) : -9223372036854775808≤a.tdiv b∧a.tdiv b≤9223372036854775807:=by
 by_cases ha:0≤a
 ·rw[Int.tdiv_eq_ediv_of_nonneg ha];have h2:=Int.ediv_nonneg ha (Int.le_of_lt hb);have h3:=Int.ediv_le_self b ha;omega
 ·have h4:a.tdiv b = -((-a).tdiv b):=by rw[Int.neg_tdiv,Int.neg_neg]
  rw[h4,Int.tdiv_eq_ediv_of_nonneg (by omega)];have h2:=Int.ediv_nonneg (show 0≤-a by omega) (Int.le_of_lt hb);have h3:=Int.ediv_le_self b (show 0≤-a by omega);omega
def Ev.quo{t yt:TypeId}{x y:Operand}{a b:Int}(hx:evE env x=some (.int .i64 a))(hy:evE env y=some (.int .i64 b))(h0:0≤a)(h1:a≤9223372036854775807)(hb:0<b):Ev P L env (.binOp .quo t x y yt) ty (.int .i64 (a / b)) :=
 Ev.mk (fun _ _ _ w ea _ _ _ _ _=>iz (aP ea hx) (aP ea hy) (by
  have a0 : b≠0:=by omega
  have h2:=Int.ediv_nonneg h0 (Int.le_of_lt hb);have h3:=Int.ediv_le_self b h0;simp[binOp,Op.intDiv,a0,Int.tdiv_eq_ediv_of_nonneg h0,kD (show -9223372036854775808≤a / b by omega) (show a / b≤9223372036854775807 by omega)]))
def Ev.B4{t yt:TypeId}{x y:Operand}{a b:Int}(hx:evE env x=some (.int .i64 a))(hy:evE env y=some (.int .i64 b))(h0 : -9223372036854775808≤a)(h1:a≤9223372036854775807)(hb:0<b):Ev P L env (.binOp .quo t x y yt) ty (.int .i64 (a.tdiv b)) :=
 Ev.mk (fun _ _ _ w ea _ _ _ _ _=>iz (aP ea hx) (aP ea hy) (by
  have a0 : b≠0:=by omega
  have h2:=yo h0 h1 hb;simp[binOp,Op.intDiv,a0,kD h2.1 h2.2]))
def Ev.rem{t yt:TypeId}{x y:Operand}{k:IntKind}{a b:Int}(hx:evE env x=some (.int k a))(hy:evE env y=some (.int k b))(h0:0≤a)(hb:0<b):Ev P L env (.binOp .rem t x y yt) ty (.int k (a % b)) :=
 Ev.mk (fun _ _ _ w ea _ _ _ _ _=>iz (aP ea hx) (aP ea hy) (by
  have a0 : b≠0:=by omega
  simp[binOp,Op.intDiv,a0,Int.tmod_eq_emod_of_nonneg h0]))
def Ev.B3{t yt:TypeId}{x y:Operand}{k:IntKind}{a b:Int}(hx:evE env x=some (.int k a))(hy:evE env y=some (.int k b))(hb:b≠0):Ev P L env (.binOp .rem t x y yt) ty (.int k (a.tmod b)) :=
 Ev.mk (fun _ _ _ w ea _ _ _ _ _=>iz (aP ea hx) (aP ea hy) (by simp[binOp,Op.intDiv,hb]))
def Ev.neg{t:TypeId}{x:Operand}{a:Int}(hx:evE env x=some (.int .i64 a))(h0 : -9223372036854775807≤a)(h1:a≤9223372036854775807):Ev P L env (.unOp .neg t x) ty (.int .i64 (-a)) :=
 Ev.mk (fun _ _ _ w ea _ _ _ _ _=>by
  have hw:IntKind.i64.wrap (0 - a) = -a:=by rw[kD (by omega) (by omega)];omega
  simp[execOp,aP ea hx,Op.unary,Op.intArith] at hw ⊢;exact hw)
def Ev.not{t:TypeId}{x:Operand}{φ:Prop}[Decidable φ](hx:evE env x=some (.bool (dB φ))):Ev P L env (.unOp .not t x) ty (.bool (dB (¬φ))) :=
 Ev.mk (fun _ _ _ w ea _ _ _ _ _=>by simp[execOp,aP ea hx,Op.unary,eY])
def Ev.t6{t:TypeId}{x:Operand}{b:Bool}(hx:evE env x=some (.bool b)):Ev P L env (.unOp .not t x) ty (.bool (!b)) :=
 Ev.mk (fun _ _ _ w ea _ _ _ _ _=>by simp[execOp,aP ea hx,Op.unary])
def Ev.B5{t:TypeId}{x:Operand}(hx:evE env x=some (.bool true)):Ev P L env (.unOp .not t x) ty (.bool false):=Ev.t6 hx
def Ev.B6{t:TypeId}{x:Operand}(hx:evE env x=some (.bool false)):Ev P L env (.unOp .not t x) ty (.bool true):=Ev.t6 hx
def Ev.conv{s t:TypeId}{x:Operand}{k k' : IntKind}{a:Int}[hs:TyInt P s k][ht:TyInt P t k'](hx:evE env x=some (.int k a)):Ev P L env (.convert s t x) ty (.int k' (k'.wrap a)) :=
 Ev.mk (fun _ _ _ w ea _ _ _ _ _=>by simp[execOp,aP ea hx,convert,run_underlying hs.under,run_underlying ht.under,Conv.intToInt])
def Ev.min2{x y:Operand}{ats:Array TypeId}{k k' : IntKind}{a b:Int}(hx:evE env x=some (.int k a))(hy:evE env y=some (.int k' b)):Ev P L env (.call { callee:=.builtin .min,args:=#[x,y],argTypes:=ats }) ty (.int k (min a b)) :=
 Ev.mk (fun _ _ _ w ea _ _ _ _ _=>by
  have hm:(if b<a then b else a)=min a b:=by split<;>omega
  simp[execOp,resolve,invoke,builtin,aP ea hx,aP ea hy,Builtin.min_,Builtin.min2,hm])
def Ev.max2{x y:Operand}{ats:Array TypeId}{k k' : IntKind}{a b:Int}(hx:evE env x=some (.int k a))(hy:evE env y=some (.int k' b)):Ev P L env (.call { callee:=.builtin .max,args:=#[x,y],argTypes:=ats }) ty (.int k (max a b)) :=
 Ev.mk (fun _ _ _ w ea _ _ _ _ _=>by
  have hm:(if a<b then b else a)=max a b:=by split<;>omega
  have a0 : (if b>a then b else a)=max a b:=by split<;>omega
  simp[execOp,resolve,invoke,builtin,aP ea hx,aP ea hy,Builtin.max_,Builtin.max2];first|exact hm|exact a0 | omega)
def Ev.nilCheck{x:Operand}{a:Addr}(hx:evE env x=some (.pointer (some a))):Ev P L env (.nilCheck x) ty (.pointer (some a)) :=
 Ev.mk (fun _ _ _ w ea _ _ _ _ _=>by simp[execOp,aP ea hx])
def kN{t:TypeId}{u v:Value}{r:Bool}{w:World}(h:∀n,(Op.equalIn (n+1) t u v).run P w=.ok r w):(Op.equal t u v).run P w=.ok r w:=h 9999
def mP{t e:TypeId}{p q:OA}{w:World}{n:Nat}(he:P.underlying t=some (.pointer e))(hq:p=none∨q=none):(Op.equalIn (n+1) t (.pointer p) (.pointer q)).run P w=.ok (decide (p=q)) w:=by
 rcases hq with rfl|rfl
 ·cases q<;>simp[Op.equalIn,run_underlying he]
 ·cases p<;>simp[Op.equalIn,run_underlying he]
def yA{t e:TypeId}{ad:OA}{k c:Nat}{w:World}{n:Nat}(he:P.underlying t=some (.slice e)):(Op.equalIn (n+1) t (.slice ad k c) (.slice none 0 0)).run P w=.ok (decide (ad=none)) w:=by
 cases ad<;>simp[Op.equalIn,run_underlying he]
def Ev.y9{t yt:TypeId}{x y:Operand}{a:Addr}[ht:TyPtr P t](hx:evE env x=some (.pointer (some a)))(hy:evE env y=some (.pointer none)):Ev P L env (.binOp .eql t x y yt) ty (.bool false) :=
 Ev.mk (fun _ _ _ w ea _ _ _ _ _=>by
  obtain⟨e,he⟩:=ht.under;have h1:=kN (P:=P) (w:=w) (fun n=>mP (n:=n) (p:=some a) (q:=none) he (.inr rfl));simp[execOp,aP ea hx,aP ea hy,eqGuard,binOp,h1])
def Ev.x9{t yt:TypeId}{x y:Operand}{a:Addr}[ht:TyPtr P t](hx:evE env x=some (.pointer (some a)))(hy:evE env y=some (.pointer none)):Ev P L env (.binOp .neq t x y yt) ty (.bool true) :=
 Ev.mk (fun _ _ _ w ea _ _ _ _ _=>by
  obtain⟨e,he⟩:=ht.under;have h1:=kN (P:=P) (w:=w) (fun n=>mP (n:=n) (p:=some a) (q:=none) he (.inr rfl));simp[execOp,aP ea hx,aP ea hy,eqGuard,binOp,h1])
def Ev.t8{t yt:TypeId}{x y:Operand}[ht:TyPtr P t](hx:evE env x=some (.pointer none))(hy:evE env y=some (.pointer none)):Ev P L env (.binOp .eql t x y yt) ty (.bool true) :=
 Ev.mk (fun _ _ _ w ea _ _ _ _ _=>by
  obtain⟨e,he⟩:=ht.under;have h1:=kN (P:=P) (w:=w) (fun n=>mP (n:=n) (p:=none) (q:=none) he (.inr rfl));simp[execOp,aP ea hx,aP ea hy,eqGuard,binOp,h1])
def Ev.A4{t yt:TypeId}{x y:Operand}{ad:OA}{n c E sz bb:Nat}{z:LV}[ht:TySl P t E sz bb z](hx:evE env x=some (.slice ad n c))(hy:evE env y=some (.slice none 0 0)):Ev P L env (.binOp .eql t x y yt) ty (.bool (dB (ad=none))) :=
 Ev.mk (fun _ _ _ w ea _ _ _ _ _=>by
  have h1:=kN (P:=P) (w:=w) (fun m=>yA (n:=m) (ad:=ad) (k:=n) (c:=c) ht.under);simp[execOp,aP ea hx,aP ea hy,eqGuard,binOp,h1,eY])
def px{s f:Nat}{off:Nat}[hf:Fld P s f off]{a:Addr}{w:World}:(Instr.fieldAt s (.pointer (some a)) f).run P w=.ok (.pointer (some (a.add off))) w:=by
 obtain⟨fs,fd,i,h1,h2,h3,h4,h5⟩:=hf.run;subst h3;simp[Instr.fieldAt,run_underlying h1,h2,Instr.sureAddr,fieldPlace,sizeOf,typeInfo,h4,h5]
def Ev.fieldAddr{s f:Nat}{x:Operand}{b off:Nat}[Fld P s f off](hx:evE env x=some (.pointer (some ⟨b,0,none⟩))):Ev P L env (.fieldAddr s x f) ty (.pointer (some ⟨b,off,none⟩)) :=
 Ev.mk (fun _ _ _ w ea _ _ _ _ _=>by simp[execOp,aP ea hx,px,gB])
def Ev.f8{s f:Nat}{x:Operand}{b o off:Nat}[Fld P s f off](hx:evE env x=some (.pointer (some ⟨b,o,none⟩))):Ev P L env (.fieldAddr s x f) ty (.pointer (some ⟨b,o+off,none⟩)) :=
 Ev.mk (fun _ _ _ w ea _ _ _ _ _=>by simp[execOp,aP ea hx,px,jG])
def Ev.l6{s f:Nat}{x:Operand}{ad:OA}{sz j off:Nat}[Fld P s f off]{α:Type}{enc:α→LV}{xs:List α}[hr:Rds L ad α enc sz xs](hx:evE env x=some (.pointer (elP ad sz j 0)))(hj:j<xs.length):Ev P L env (.fieldAddr s x f) ty (.pointer (elP ad sz j off)) :=
 Ev.mk (fun θ R _ w ea s _ _ _ _=>by
  obtain⟨_,h2⟩:=hr.rd θ R w s;rcases h2 with h2|⟨a,rfl,_⟩
  ·subst h2;simp at hj
  ·have e:(a.add (j*sz+0)).add off=a.add (j*sz+off):=by
    unfold Addr.add;(repeat' split)<;>first|rfl|omega|(simp;omega)|(simp_all;done)
   simp only[Nat.add_zero] at e;simp[execOp,aP ea hx,elP,px,e])
def Ev.indexAddr{t:TypeId}{x i:Operand}{ad:OA}{n c E sz bb:Nat}{z:LV}{j:Int}{k:IntKind}{α:Type}{enc:α→LV}{xs:List α}[ht:TySl P t E sz bb z][hr:Rds L ad α enc sz xs]
  (hx:evE env x=some (.slice ad n c)) (hi:evE env i=some (.int k j)) (h0:0≤j) (h1:j<n) (hn:n≤xs.length):Ev P L env (.indexAddr t x i) ty (.pointer (elP ad sz j.toNat 0)) :=
 Ev.mk (fun θ R _ w ea s _ _ _ _=>by
  obtain⟨_,h2⟩:=hr.rd θ R w s;obtain⟨ii,z0,i1,i2,i3,i4,i5⟩:=ht.parts;rcases h2 with h2|⟨a,rfl,_⟩
  ·subst h2;simp at hn;omega
  ·simp[execOp,aP ea hx,aP ea hi,Instr.indexAt,asIntOf,run_underlying ht.under,h0,h1,sizeOf,typeInfo,i1,i4,elP])
def Ev.l0{t:TypeId}{x i:Operand}{b n c E sz bb:Nat}{z:LV}{j:Int}{k:IntKind}[ht:TySl P t E sz bb z]
  (hx:evE env x=some (.slice (some ⟨b,0,none⟩) n c)) (hi:evE env i=some (.int k j)) (h0:0≤j) (h1:j<n):Ev P L env (.indexAddr t x i) ty (.pointer (some ⟨b,j.toNat*sz,none⟩)) :=
 Ev.mk (fun θ R _ w ea s _ _ _ _=>by
  obtain⟨ii,z0,i1,i2,i3,i4,i5⟩:=ht.parts;simp[execOp,aP ea hx,aP ea hi,Instr.indexAt,asIntOf,run_underlying ht.under,h0,h1,sizeOf,typeInfo,i1,i4,gB])
def Sat.obj_heap{θ:Th}{b T:Nat}{cs:LV}{L R:LH}{w:World}(s:Sat θ (L++R) w){Rest:LH}(hp:L.Perm (obj b T cs::Rest)):w.heap[b]? = some (.cells cs.toArray T (0,0)) :=
 (s.perm (hp.append_right R)).own_heap
def Ev.d9{t:TypeId}{x:Operand}{b k T:Nat}{cs:LV}{Rest:LH}{v:Value}[ht:TyOne P t][hp:PickObj L b T cs Rest](hx:evE env x=some (.pointer (some ⟨b,k,none⟩)))(hv:cs[k]? = some v):Ev P L env (.load t x) ty (v) :=
 Ev.mk (fun θ R _ w ea s _ _ _ _=>by
  have hb:=s.obj_heap hp.perm;simp[execOp,aP ea hx,Instr.loadAt,Instr.sureAddr,loadVar,ht.run,eV hb,hv])
def Ev.e7{t:TypeId}{x:Operand}{b T n:Nat}{cs:LV}{Rest:LH}[ht:TyAgg P t n][hp:PickObj L b T cs Rest](hx:evE env x=some (.pointer (some ⟨b,0,none⟩)))(hn:cs.length=n):Ev P L env (.load t x) ty (.agg cs.toArray) :=
 Ev.mk (fun θ R _ w ea s _ _ _ _=>by
  have hb:=s.obj_heap hp.perm;have hl:=run_loadCells_list (P:=P) w ⟨b,0,none⟩ cs (fun j v hv=>by rw[gB,eV hb];simpa using hv);rw[hn] at hl;simp[execOp,aP ea hx,Instr.loadAt,Instr.sureAddr,loadVar,ht.run,TyAgg.sizeOf_run,hl])
def Ev.d7{t:TypeId}{x:Operand}{ad:OA}{sz j o:Nat}{α:Type}[Inhabited α]{enc:α→LV}{xs:List α}{v:Value}[ht:TyOne P t][hr:Rds L ad α enc sz xs]
  (hx:evE env x=some (.pointer (elP ad sz j o))) (hj:j<xs.length) (ho:o<sz) (hv:(enc xs[j]!)[o]? = some v):Ev P L env (.load t x) ty (v) :=
 Ev.mk (fun θ R _ w ea s _ _ _ _=>by
  obtain⟨h1,h2⟩:=hr.rd θ R w s;rcases h2 with h2|⟨a,rfl,h3⟩
  ·subst h2;simp at hj
  ·have h4:=h3 (j*sz+o) v (by rw[oJ h1 hj ho];exact hv);simp[execOp,aP ea hx,elP,Instr.loadAt,Instr.sureAddr,loadVar,ht.run,h4])
def Ev.e8{t:TypeId}{x:Operand}{ad:OA}{sz j:Nat}{α:Type}[Inhabited α]{enc:α→LV}{xs:List α}[ht:TyAgg P t sz][hr:Rds L ad α enc sz xs]
  (hx:evE env x=some (.pointer (elP ad sz j 0))) (hj:j<xs.length):Ev P L env (.load t x) ty (.agg (enc xs[j]!).toArray) :=
 Ev.mk (fun θ R _ w ea s _ _ _ _=>by
  obtain⟨h1,h2⟩:=hr.rd θ R w s;rcases h2 with h2|⟨a,rfl,h3⟩
  ·subst h2;simp at hj
  ·have a0:(enc xs[j]!).length=sz:=h1 _ (by rw[List.getElem!_eq_getElem?_getD,List.getElem?_eq_getElem hj];simp)
   have hl:=run_loadCells_list (P:=P) w (a.add (j*sz)) (enc xs[j]!) (fun o v hv=>by
    have ho:o<sz:=by rw[←a0];exact(List.getElem?_eq_some_iff.1 hv).1
    have e:(a.add (j*sz)).add o=a.add (j*sz+o):=by
     unfold Addr.add;(repeat' split)<;>first|rfl|omega|(simp;omega)|(simp_all;done)
    rw[e];exact h3 _ v (by rw[oJ h1 hj ho];exact hv))
   rw[a0] at hl;simp[execOp,aP ea hx,elP,Instr.loadAt,Instr.sureAddr,loadVar,ht.run,TyAgg.sizeOf_run,hl])
def ml{w:World}{b k:Nat}{cs:Array Value}{T:TypeId}{fz:Nat×Nat}(v:Value)(h:w.heap[b]? = some (.cells cs T fz)):(w.setCell ⟨b,k,none⟩ v).heap[b]? = some (.cells (cs.setIfInBounds k v) T fz):=by
 simp[World.setCell,Array.getElem?_modify,h]
def lW{w:World}{b k j:Nat}(v:Value)(h:j≠b):(w.setCell ⟨b,k,none⟩ v).heap[j]? = w.heap[j]?:=by
 simp only[World.setCell,Array.getElem?_modify];rw[if_neg (by omega)]
def oO:LV→Nat→Value→(LV→Option (LV))→Option (LV)
 | [],_,_,_=>none
 | _::cs,0,v,k=>k (v::cs)
 | c::cs,n+1,v,k=>oO cs n v fun r=>k (c::r)
def rN:∀(cs:LV) (n:Nat) (v:Value) (k:LV→Option (LV)) (r:LV),oO cs n v k=some r→n<cs.length∧k (cs.set n v)=some r
 | [],_,_,_,_,h=>by simp[oO] at h
 | _::cs,0,v,k,r,h=>by simpa [oO] using h
 | c::cs,n+1,v,k,r,h=>by
  have:=rN cs n v (fun r=>k (c::r)) r (by simpa [oO] using h)
  simpa using this
def Ef.l8{t:TypeId}{x y:Operand}{b k T:Nat}{cs a3 : LV}{Rest:LH}{v:Value}[ht:TyOne P t][hp:PickObj L b T cs Rest](hx:evE env x=some (.pointer (some ⟨b,k,none⟩)))(hy:evE env y=some v)(h1:v.oneCell' = true)(a4:oO cs k v some=some a3)
  : Ef P L env (.store t x y) ty (fun _ L'=>L' = obj b T a3::Rest) :=
 Ef.skip (fun θ R a w ea s a7 pos af g=>by
  have s1:=s.perm (hp.perm.append_right R);have hb:w.heap[b]? = some (.cells cs.toArray T (0,0)):=s1.own_heap;obtain⟨a8,a1⟩:=rN _ _ _ _ _ a4;have a2:cs.set k v=a3:=by simpa using a1
  subst a2;have a0:w.cell? ⟨b,k,none⟩=some cs[k]:=by rw[eV hb];simp
  have a6:w.frozen? ⟨b,k,none⟩=false:=by simp[World.frozen?,hb]
  have a5:v.cells=#[v]:=by cases v<;>first|rfl|cases h1
  refine⟨w.setCell ⟨b,k,none⟩ v,_,?_,rfl,?_⟩
  ·simp[execOp,aP ea hx,aP ea hy,Instr.storeAt,Instr.sureAddr,storeVar,TyOne.sizeOf_run,a5,storeCells,Addr.add,run_store _ _ _ _ _ h1,a0,a6]
  ·refine Sat.update s1 ⟨s.1.tape,s.1.os,s.1.output,s.1.drawn⟩ ?_ (fun j x hj hx=>by rw[lW v hj];exact hx);rw[ml v hb];simp)
def Ef.g9{t:TypeId}{x y:Operand}{b T n:Nat}{cs vs:LV}{Rest:LH}[ht:TyAgg P t n][hp:PickObj L b T cs Rest](hx:evE env x=some (.pointer (some ⟨b,0,none⟩)))(hy:evE env y=some (.agg vs.toArray))(hn:vs.length=n)(hc:cs.length=n)(h1:∀v∈vs,v.oneCell' = true)
  : Ef P L env (.store t x y) ty (fun _ L'=>L' = obj b T vs::Rest) :=
 Ef.skip (fun θ R a w ea s a1 pos af g=>by
  have s1:=s.perm (hp.perm.append_right R);have hb:w.heap[b]? = some (.cells cs.toArray T (0,0)):=s1.own_heap;have a0:=run_storeCells_at P b 0 T vs 0 cs.toArray w hb (by simp;omega) h1;refine⟨w.setRow b vs.toArray,_,?_,rfl,?_⟩
  ·simp[execOp,aP ea hx,aP ea hy,Instr.storeAt,Instr.sureAddr,storeVar,TyAgg.sizeOf_run,Value.cells,hn] at a0 ⊢;rw[a0];simp[show List.drop n cs=[] by rw[←hc];simp]
  ·exact Sat.update s1 ⟨s.1.tape,s.1.os,s.1.output,s.1.drawn⟩ (setRow_heap w b _ _ T _ hb) (fun j x hj hx=>by rw[setRow_other w b j _ hj];exact hx))
def Ef.m6{t:TypeId}{x:Operand}{vs:LV}(hx:evE env x=some (.agg vs.toArray)):Ef P L env (.box t x) ty (fun v L'=>∃b,v=.pointer (some ⟨b,0,none⟩)∧L' = obj b t vs::L) :=
 Ef.val (fun θ R a w ea s a0 pos af g=>⟨_,w.alloc (.cells vs.toArray t),_,by simp[execOp,aP ea hx,Instr.box,newVar,newRow,Value.cells],⟨_,rfl,rfl⟩,s.alloc⟩)
def Ef.m8{t:TypeId}{x:Operand}{v:Value}(hx:evE env x=some v)(h1:v.oneCell' = true):Ef P L env (.box t x) ty (fun u L'=>∃b,u=.pointer (some ⟨b,0,none⟩)∧L' = obj b t [v]::L) :=
 Ef.val (fun θ R a w ea s a1 pos af g=>⟨_,w.alloc (.cells #[v] t),_,by
  have a0:v.cells=#[v]:=by cases v<;>first|rfl|cases h1
  simp[execOp,aP ea hx,Instr.box,newVar,newRow,a0],⟨_,rfl,rfl⟩,s.alloc⟩)
class ZeroT (P:Program) (T:Nat) (z:outParam (LV)):Prop where
 zero:(P.info? T).map (fun i=>i.zero.map (·.cells.toList))=some (some z)
def ZeroT.run{P:Program}{T:Nat}{z:LV}[h:ZeroT P T z](w:World):∃z0,(zeroValue T).run P w=.ok z0 w∧z0.cells=z.toArray:=by
 have h1:=h.zero;cases hi:P.info? T with
 | none=>rw[hi] at h1;cases h1
 | some i =>
  rw[hi] at h1;simp at h1;obtain⟨z0,hz,a0⟩:=h1;exact⟨z0,by simp[zeroValue,typeInfo,hi,hz],by rw[←a0]⟩
def Ef.alloc{t:TypeId}{z:LV}[hz:ZeroT P t z]:Ef P L env (.alloc t) ty (fun u L'=>∃b,u=.pointer (some ⟨b,0,none⟩)∧L' = obj b t z::L) :=
 Ef.val (fun θ R a w ea s a0 pos af g=>⟨_,w.alloc (.cells z.toArray t),_,by
  obtain⟨z0,h1,h2⟩:=hz.run w;simp[execOp,Instr.alloc,h1,newVar,newRow,h2],⟨_,rfl,rfl⟩,s.alloc⟩)
def ry(z:LV)(sz len:Nat)(parts:List (Nat×Value)):Option (LV) :=
 (Instr.fill (fun i=>some (i*sz,sz)) ((Array.range (len*sz)).map (z.toArray[· % z.length]!)) parts).map (·.toList)
def Ef.buildSlice{t:TypeId}{len:Nat}{ps:Array (Nat×Operand)}{vs:List (Nat×Value)}{E sz bb:Nat}{z cs:LV}[ht:TySl P t E sz bb z](hv:kX env ps.toList=some vs)(hl:len*sz≤16777216)(hc:ry z sz len vs=some cs)
  : Ef P L env (.buildSlice t len ps) ty (fun v L'=>∃b,v=.slice (some ⟨b,0,none⟩) len len∧L' = obj b E cs::L) :=
 Ef.val (fun θ R a w ea s a4 pos af g=>⟨.slice (some ⟨w.heap.size,0,none⟩) len len,w.alloc (.cells cs.toArray E),_,by
  obtain⟨ii,z0,i1,i2,i3,i4,i5⟩:=ht.parts
  have a0:ps.map (fun p=>(p.1,a p.2))=vs.toArray:=by
   apply Array.ext';simpa using ea.pairs ps.toList vs hv
  have hz:z0.cells=z.toArray:=by rw[←i3]
  simp only[ry,Option.map_eq_some_iff] at hc;obtain⟨ar,a1,a3⟩:=hc;subst a3;have a2:¬len*sz>2 ^ 24:=by omega
  simp only[execOp,a0,Instr.buildSlice,Sem.run_bind,run_underlying ht.under,Result.andThen_ok,sizeOf,typeInfo,run_program,i1,Sem.run_pure,i4,a2,if_false,zeroValue];by_cases h0:len*sz=0
  ·simp only[h0,if_true];have e0:(Array.range 0:Array Nat)=#[]:=rfl;simp only[h0,e0,List.map_toArray,List.map_nil] at a1 ⊢;simp only[a1];simp[newRow]
  ·simp only[h0,if_false,Sem.run_bind,run_program,Result.andThen_ok,i1,Sem.run_pure,i2,hz,List.size_toArray];simp only[a1];simp[newRow],⟨_,rfl,rfl⟩,s.alloc⟩)
def Ev.A6{t:TypeId}{x:Operand}{ad:OA}{n c E sz bb:Nat}{z:LV}[ht:TySl P t E sz bb z](hx:evE env x=some (.slice ad n c)):Ev P L env (.call { callee:=.builtin .len,args:=#[x],argTypes:=#[t] }) ty (.int .i64 (n:Int)) :=
 Ev.mk (fun _ _ _ w ea _ _ _ _ _=>by simp[execOp,resolve,invoke,builtin,aP ea hx,Builtin.len_,run_underlying ht.under,goInt])
def wU{α:Type}{θ:Th}{enc:α→LV}{sz E:Nat}{ad:OA}{cap:Nat}{xs:List α}{L:LH}{w:World}(s:Sat θ (osl enc sz E ad cap xs::L) w):w.ownsRow 0 E sz (.slice ad xs.length cap) xs.length (xs.flatMap enc):=by
 obtain⟨h1,h2,h3,h4⟩:=s.osl_parts;refine⟨fe h1,?_⟩;rcases h4 with⟨rfl,rfl⟩|⟨g,a0,rfl,f1,f2,f3⟩
 ·left;have:xs.length=0:=by omega
  simp[this]
 ·exact .inr ⟨g,cap,a0,rfl,Nat.zero_le _,f3.own_heap,h2,h3,f1,f2⟩
def um{α:Type}{θ:Th}{enc:α→LV}{sz E:Nat}{ad:OA}{cap:Nat}{xs ys:List α}{L:LH}{w w' : World}(s:Sat θ (osl enc sz E ad cap xs::L) w)(hy:∀x∈ys,(enc x).length=sz){v' : Value}
  (ho:w'.ownsRow 0 E sz v' (xs.length+ys.length) (xs.flatMap enc++ys.flatMap enc)) (hg:w.grownBy w' (Value.ownBlock (.slice ad xs.length cap))) (b8:w.drawn≤w'.drawn) (a3:v'.ownBlock=Value.ownBlock (.slice ad xs.length cap)∨v'.ownBlock=some w.heap.size) :
  ∃b2 a0,v' = .slice b2 (xs++ys).length a0∧Sat θ (osl enc sz E b2 a0 (xs++ys)::L) w':=by
 obtain⟨h1,h2,h3,h4⟩:=s.osl_parts
 have a7:∀x∈xs++ys,(enc x).length=sz:=fun x hx=>by
  rcases List.mem_append.1 hx with hx|hx
  ·exact h1 x hx
  ·exact hy x hx
 have ok:θ.ok w':=⟨by rw[hg.tape];exact s.1.tape,by rw[hg.os];exact s.1.os,by rw[hg.output];exact s.1.output,Nat.le_trans s.1.drawn b8⟩;rcases ho.2 with⟨rfl,hn⟩|⟨g,a0,b3,rfl,_,a8,b9,b6,b7,a4⟩
 ·have hx:xs=[]:=List.eq_nil_of_length_eq_zero (by omega);have hy:ys=[]:=List.eq_nil_of_length_eq_zero (by omega);subst hx hy;refine⟨none,0,rfl,Sat.e9 enc sz E ?_⟩;refine s.tail.keep ok (fun k o hk=>?_);have a5:k<w.heap.size:=(Array.getElem?_eq_some_iff.1 hk).1;by_cases a2:some k=Value.ownBlock (.slice ad ([]:List α).length cap)
  ·rcases h4 with⟨rfl,rfl⟩|⟨g,b3,rfl,f1,f2,f3⟩
   ·simp[Value.ownBlock] at a2
   ·simp[Value.ownBlock] at a2 a3
  ·rw[hg.block k a5 a2];exact hk
 ·refine⟨some ⟨g,0,none⟩,a0,by simp,?_⟩;have a9:(xs++ys).length=xs.length+ys.length:=by simp
  have b5:Sat θ (own g (.cells b3 E (0,0))::L) w'→Sat θ (osl enc sz E (some ⟨g,0,none⟩) a0 (xs++ys)::L) w':=fun s' =>
   s'.osl_mk a7 (by omega) b6 b7 (by rw[a9,a4];simp)
  apply b5;simp only[Value.ownBlock] at a3 hg;rcases h4 with⟨rfl,rfl⟩|⟨g0,b4,rfl,f1,f2,f3⟩
  ·simp at a3;subst a3;exact s.tail.fresh ok (Nat.le_refl _) a8 (fun k x hk=>by rw[hg.block k (Array.getElem?_eq_some_iff.1 hk).1 (by simp)];exact hk)
  ·simp at a3;rcases a3 with rfl|rfl
   ·exact f3.update ok a8 (fun k x hk hx=>by rw[hg.block k (Array.getElem?_eq_some_iff.1 hx).1 (by simpa using hk)];exact hx)
   ·have s5:=f3.tail
    have c0:g0≠w.heap.size:=by
     have:=(Array.getElem?_eq_some_iff.1 f3.own_heap).1
     omega
    -- the old row is given up
    obtain⟨a6,ι,h,a,b1,c,ι₀,h₁,h₂,d1,d2,d3,d4,d5,d6⟩:=f3
    have s6:Sat θ L { w with heap:=w.heap.setIfInBounds g0 ((w'.heap[g0]?).getD default) }:=by
     refine⟨⟨a6.tape,a6.os,a6.output,a6.drawn⟩,ι,h₂,a.mono (Hp.sub.refl _) d4,?_,?_,d6⟩
     ·intro k o hk
      have a1:k≠g0:=by
       rintro rfl;have:=a k o hk
       rw[d3 k _ d5] at this;cases this
      have:=b1 k o hk
      simp only[ij] at this ⊢;rw[Array.getElem?_setIfInBounds_ne (Ne.symm a1)];exact this
     ·intro k o hk
      have a1:k≠g0:=by
       rintro rfl;have:=d2 k _ d5
       rw[hk] at this;cases this
      have:=c k o (d4 k o hk)
      simp only[ij] at this ⊢;rw[Array.getElem?_setIfInBounds_ne (Ne.symm a1)];exact this
    refine s6.fresh ok (by simp) a8 (fun k x hk=>?_);by_cases a1:k=g0
    ·subst a1
     have a5:k<w.heap.size:=by
      have:=c k _ (d3 k _ d5)
      exact(Array.getElem?_eq_some_iff.1 this).1
     simp[a5] at hk;have b0 : k<w'.heap.size:=Nat.lt_of_lt_of_le a5 hg.size;rw[Array.getElem?_eq_getElem b0] at hk ⊢;simpa using hk
    ·simp only at hk;rw[Array.getElem?_setIfInBounds_ne (Ne.symm a1)] at hk;rw[hg.block k (Array.getElem?_eq_some_iff.1 hk).1 (by simpa using a1)];exact hk
def Ef.d7{t:TypeId}{x y:Operand}{α:Type}{enc:α→LV}{ad:OA}{n c sz E bb cap b T:Nat}{xs:List α}{z cs:LV}{R1 R2:LH}(e:α)[ht:TySl P t E sz bb z][hp:PickOsl L ad α enc sz E cap xs R1][hq:PickObj R1 b T cs R2]
  (hx:evE env x=some (.slice ad n c)) (hy:evE env y=some (.slice (some ⟨b,0,none⟩) 1 1)) (he:cs=enc e) (hn:n=xs.length) (hc:c=cap) (hs:cs.length=sz) (h1:∀u∈cs,u.oneCell' = true) (hb:(xs.length+1)*bb≤140737488355328) (hm:xs.length+1≤9223372036854775807)
  : Ef P L env (.call { callee:=.builtin .append,args:=#[x,y],argTypes:=#[t,t] }) ty (fun v L'=>∃a1 a0,v=.slice a1 (xs++[e]).length a0∧L' = osl enc sz E a1 a0 (xs++[e])::R2) :=
 Ef.val (fun θ R a w ea s a4 pos af g=>by
  subst hn hc he;have s1:=s.perm (hp.perm.append_right R);have a2:=wU s1;have a3:=Sat.obj_heap (R:=R) (show Sat θ (R1++R) w from s1.tail) hq.perm;obtain⟨ii,z0,i1,i2,i3,i4,i5⟩:=ht.parts;obtain⟨v',w',hr,h2,h3,_,h5⟩:=run_append_own_at (P:=P) w 0 t ty E ii z0 sz bb ht.under i1 i2 i4 i5 (by rw[←ht.zlen,←i3];simp) ht.pos _ _ _ a2 ⟨b,0,none⟩ 1 1 (enc e) (by omega) (fun j u hu=>by rw[gB,eV a3];simpa using hu) h1 (by simp only[maxLen];omega) hb (Nat.zero_le _);obtain⟨a1,a0,rfl,s2⟩:=um (ys:=[e]) s1 (by simpa using hs) (by simpa using h2) h3 (py _ hr) h5;refine⟨_,w',_,?_,⟨a1,a0,rfl,rfl⟩,?_⟩
  ·simp[execOp,resolve,invoke,builtin,aP ea hx,aP ea hy,hr]
  ·have s3:Sat θ (osl enc sz E a1 a0 (xs++[e])::(obj b T (enc e)::R2++R)) w':=s2.perm ((hq.perm.append_right R).cons _);exact(s3.perm (List.Perm.swap _ _ _)).tail)
def Ef.j0{t:TypeId}{x y:Operand}{α:Type}{enc:α→LV}{ad a4:OA}{n c n2 c2 sz E bb cap:Nat}{xs ys:List α}{z:LV}{R1:LH}[ht:TySl P t E sz bb z][hp:PickOsl L ad α enc sz E cap xs R1][hq:Rds R1 a4 α enc sz ys]
  (hx:evE env x=some (.slice ad n c)) (hy:evE env y=some (.slice a4 n2 c2)) (hn:n=xs.length) (hc:c=cap) (a8:n2=ys.length) (h1:∀e∈ys,∀u∈enc e,u.oneCell' = true) (hb:(xs.length+ys.length)*bb≤140737488355328) (hm:xs.length+ys.length≤9223372036854775807)
  : Ef P L env (.call { callee:=.builtin .append,args:=#[x,y],argTypes:=#[t,t] }) ty (fun v L'=>∃a3 a0,v=.slice a3 (xs++ys).length a0∧L' = osl enc sz E a3 a0 (xs++ys)::R1) :=
 Ef.val (fun θ R a w ea s a9 pos af g=>by
  subst hn hc a8;have s1:=s.perm (hp.perm.append_right R);have a6:=wU s1;obtain⟨g1,g2⟩:=hq.rd θ R w s1.tail;obtain⟨ii,z0,i1,i2,i3,i4,i5⟩:=ht.parts
  have a7 : ∀u∈ys.flatMap enc,u.oneCell' = true:=fun u hu=>by
   obtain⟨e,he,hu⟩:=List.mem_flatMap.1 hu;exact h1 e he u hu
  rcases a4 with _|a2
  ·rcases g2 with g2|⟨a,ha,_⟩
   ·subst g2;refine⟨.slice ad xs.length c,w,_,?_,⟨ad,c,by simp,rfl⟩,by simpa using s1⟩;have a5:xs.length≤c:=s1.osl_parts.2.1;simp[execOp,resolve,invoke,builtin,aP ea hx,aP ea hy,Builtin.append_,run_underlying ht.under,sizeOf,typeInfo,i1,Builtin.lenOf,a5,Builtin.firstCells];cases ad<;>simp[storeCells]
   ·cases ha
  ·have a1:∀j u,(ys.flatMap enc)[j]? = some u→w.cell? (a2.add j)=some u:=by
    rcases g2 with g2|⟨a,ha,g3⟩
    ·subst g2;simp
    ·cases ha;exact g3
   obtain⟨v',w',hr,h2,h3,_,h5⟩:=run_append_own_at (P:=P) w 0 t ty E ii z0 sz bb ht.under i1 i2 i4 i5 (by rw[←ht.zlen,←i3];simp) ht.pos _ _ _ a6 a2 ys.length c2 (ys.flatMap enc) (fe g1) a1 a7 (by simp only[maxLen];omega) hb (Nat.zero_le _);obtain⟨a3,a0,rfl,s2⟩:=um (ys:=ys) s1 g1 h2 h3 (py _ hr) h5;refine⟨_,w',_,?_,⟨a3,a0,rfl,rfl⟩,s2⟩;simp[execOp,resolve,invoke,builtin,aP ea hx,aP ea hy,hr])
end ops
end
section
section any
variable {P:Program}{ops:Array Oper}{Q:Exit→Act→World→Prop}{md:Region.Mode}
inductive Dep (md:Region.Mode) (ops:Array Oper):Nat→Nat→Prop where
 | one {j i:Nat} {o:Oper} {e:Edge}:ops[j]? = some o→e∈o.after→Region.binds md e=true→e.on=i→Dep md ops j i
 | more {j i:Nat} {o:Oper} {e:Edge}:ops[j]? = some o→e∈o.after→Region.binds md e=true→Dep md ops e.on i→Dep md ops j i
def Closed(md:Region.Mode)(a1:Array Oper)(a0:Array Bool):Prop:=∀j o,a1[j]? = some o→a0.getD j false=true→∀e∈o.after,Region.binds md e=true→a0.getD e.on false=true
def Closed.dep{a0:Array Bool}(h:Closed md ops a0){j i:Nat}(hd:Dep md ops j i)(hj:∀o,ops[j]? = some o→∀e∈o.after,Region.binds md e=true→a0.getD e.on false=true):a0.getD i false=true:=by
 induction hd with
 | one h1 h2 h3 h4=>subst h4;exact hj _ h1 _ h2 h3
 | more h1 h2 h3 _ ih=>exact ih fun o ho e he hb=>h _ o ho (hj _ h1 _ h2 h3) e he hb
def Closed.set{a0:Array Bool}(h:Closed md ops a0){i:Nat}(hi:i∈Region.ready md ops a0):Closed md ops (a0.setIfInBounds i true):=by
 intro j o ho hj e he hb;obtain⟨_,oi,a3,a1⟩:=mem_ready.1 hi;by_cases a2:i=j
 ·subst a2;rw[a3] at ho;cases ho;exact getD_set_true (a1 e he hb)
 ·rw[getD_set_ne false a2] at hj;exact getD_set_true (h j o ho hj e he hb)
def Closed.d7(n:Nat):Closed md ops (Array.replicate n false):=by
 intro j o _ hj;simp[Array.getElem?_replicate] at hj;split at hj<;>simp at hj
abbrev Pend:=List (Nat×(World→Prop))
def kp(dep:Nat→Nat→Bool)(j:Nat)(S:Pend):Pend:=S.filter fun p=>!dep j p.1
def wpAnyP(P:Program)(md:Region.Mode)(a0:Array Oper)(Q:Exit→Act→World→Prop)(dep:Nat→Nat→Bool):Nat→Array Bool→Pend→Act→World→Prop
 | 0,listed,_,a,w=>Region.ready md a0 listed=[]∧Q .normal a w
 | fuel+1,listed,S,a,w =>
  (Region.ready md a0 listed=[]→Q .normal a w) ∧
  ∀j∈Region.ready md a0 listed,wpOp P a0 Q j (fun a' w'=>(∀p∈kp dep j S,p.2 w')∧wpAnyP P md a0 Q dep fuel (listed.setIfInBounds j true) (kp dep j S) a' w') a w
variable {dep:Nat→Nat→Bool}
def wpAnyP.d7:∀(fuel:Nat) (a0:Array Bool) (S:Pend) (a:Act) (w:World),wpAnyP P md ops Q dep fuel a0 S a w→wpAny P md ops Q fuel a0 a w
 | 0,_,_,_,_,h=>h
 | fuel+1,_,_,_,_,h=>⟨h.1,fun j hj=>wpOp_mono (fun a' w' h'=>wpAnyP.d7 fuel _ _ a' w' h'.2) (h.2 j hj)⟩
def wpAnyP.less:∀(fuel:Nat) (a0:Array Bool) (S S' : Pend) (a:Act) (w:World),(∀p∈S',p∈S)→wpAnyP P md ops Q dep fuel a0 S a w→wpAnyP P md ops Q dep fuel a0 S' a w
 | 0,_,_,_,_,_,_,h=>h
 | fuel+1,_,S,S',_,_,hs,h=>⟨h.1,fun j hj=>wpOp_mono (fun a' w' h' =>
   have hk:∀p∈kp dep j S',p∈kp dep j S:=fun p hp=>by
    unfold kp at *;rw[List.mem_filter] at *;exact⟨hs p hp.1,hp.2⟩
   ⟨fun p hp=>h'.1 p (hk p hp),wpAnyP.less fuel _ _ _ a' w' hk h'.2⟩) (h.2 j hj)⟩
def wpAnyP.first{i:Nat}{oi:Oper}{v:Value}{Si:World→Prop}(hi:ops[i]? = some oi)(a7:∀(j:Nat) (o:Oper) cs b,ops[j]? = some o→o.op≠.select cs b)
  (hQ:∀c a w,Q (.panic c) (a.put oi.dst v) w→Q (.panic c) a w) (a9:∀j,dep j i=true→Dep md ops j i) :
  ∀(fuel:Nat) (a0:Array Bool) (S:Pend) (a:Act) (w:World),
   Closed md ops a0 →
   (∀j oj,ops[j]? = some oj→j≠i→a0.getD j true=false→(∀e∈oj.after,Region.binds md e=true→e.on≠i)→oi.apart ops oj=true) →
   i∈Region.ready md ops a0→YieldsIf P ops Si oi v a→Si w→(∀p∈S,p.2 w) →
   wpAnyP P md ops Q dep fuel (a0.setIfInBounds i true) ((i,Si)::S) (a.put oi.dst v) w→wpAnyP P md ops Q dep (fuel+1) a0 S a w:=by
 intro fuel;induction fuel with
 | zero =>
  intro a0 S a w _ _ hr hy hS hP H;refine⟨fun h=>(by rw[h] at hr;cases hr),fun j hj=>?_⟩;by_cases a2:j=i
  ·subst a2;exact hy.wpOp hi hS ⟨fun p hp=>hP p ((List.mem_filter.1 hp).1),H⟩
  ·have:=ready_mono hj a2
   rw[H.1] at this;cases this
 | succ fuel ih =>
  intro a0 S a w b1 a1 hr hy hS hP H;refine⟨fun h=>(by rw[h] at hr;cases hr),fun j hj=>?_⟩;by_cases a2:j=i
  ·subst a2;exact hy.wpOp hi hS ⟨fun p hp=>hP p ((List.mem_filter.1 hp).1),wpAnyP.less _ _ _ _ _ _ (fun p hp=>List.mem_cons_of_mem _ ((List.mem_filter.1 hp).1)) H⟩
  ·have h1:=H.2 j (ready_mono hj a2);obtain⟨a6,oj,a8,a4⟩:=mem_ready.1 hj
   have a5:a0.getD i false=true→False:=fun h1=>by
    have h0:=(mem_ready.1 hr).1;rcases Nat.lt_or_ge i a0.size with h' | h'
    ·simp[h'] at h0 h1;rw[h0] at h1;cases h1
    ·simp[Array.getElem?_eq_none h'] at h1
   have b0:∀e∈oj.after,Region.binds md e=true→e.on≠i:=fun e he hb b4=>a5 (b4▸a4 e he hb)
   have b7:dep j i=false:=by
    cases hd:dep j i with
    | false=>rfl
    | true=>exact(a5 (b1.dep (a9 j hd) fun o ho e he hb=>by rw[a8] at ho;cases ho;exact a4 e he hb)).elim
   have h2:=wpOp_putIf a8 (a1 j oj a8 a2 a6 b0) (fun cs b=>a7 i oi cs b hi) (fun cs b=>a7 j oj cs b a8) hQ hy h1
   have a3 : ∀k ok,ops[k]? = some ok→k≠i→(a0.setIfInBounds j true).getD k true=false →
     (∀e∈ok.after,Region.binds md e=true→e.on≠i)→oi.apart ops ok=true:=fun k ok hk b5 b3 b8=>by
    refine a1 k ok hk b5 ?_ b8;by_cases b2:j=k
    ·subst b2;exact a6
    ·rw[getD_set_ne true b2] at b3;exact b3
   have b6:kp dep j ((i,Si)::S)=(i,Si)::kp dep j S:=by simp[kp,b7]
   rw[b6] at h2;refine wpOp_mono (fun a' w' h3=>⟨fun p hp=>h3.2.1 p (List.mem_cons_of_mem _ hp),ih (a0.setIfInBounds j true) _ a' w' (b1.set hj) a3 (ready_mono hr (Ne.symm a2)) h3.1 (h3.2.1 _ List.mem_cons_self) (fun p hp=>h3.2.1 p (List.mem_cons_of_mem _ hp)) ?_⟩) h2;rw[Array.setIfInBounds_comm _ _ a2];exact h3.2.2
end any
def dN(n:Nat):List Nat→Array Bool
 | []=>Array.replicate n false
 | i::r=>(dN n r).setIfInBounds i true
def depB(a0:Array Oper):Nat→Nat→Nat→Bool
 | 0,_,_=>false
 | fuel+1,j,i=>match a0[j]? with
  | none=>false
  | some o=>o.after.toList.any fun e=>Region.binds .any e && (e.on == i || depB a0 fuel e.on i)
def rH{a0:Array Oper}:∀(fuel j i:Nat),depB a0 fuel j i=true→Dep .any a0 j i
 | 0,_,_,h=>by simp[depB] at h
 | fuel+1,j,i,h=>by
  unfold depB at h;cases ho:a0[j]? with
  | none=>rw[ho] at h;simp at h
  | some o =>
   rw[ho] at h;simp only[List.any_eq_true] at h;obtain⟨e,he,h⟩:=h;have a1 : e∈o.after:=by simpa using he
   simp only[Bool.and_eq_true,Bool.or_eq_true,beq_iff_eq] at h;rcases h with⟨hb,h|h⟩
   ·exact .one ho a1 hb h
   ·exact .more ho a1 hb (rH fuel _ i h)
inductive Stp where
 | ev (i:Nat)
 | ef (i:Nat)
abbrev ar3(l:List Stp):List Stp:=.ev 0::.ev 1::.ev 2::.ev 3::l
abbrev ar4(l:List Stp):List Stp:=.ev 0::.ev 1::.ev 2::.ev 3::.ev 4::.ev 5::l
abbrev ar5(l:List Stp):List Stp:=.ev 0::.ev 1::.ev 2::.ev 3::.ev 4::.ev 5::.ev 6::.ev 7::l
abbrev ar6(l:List Stp):List Stp:=.ev 0::.ev 1::.ev 2::.ev 3::.ev 4::.ev 5::.ev 6::.ev 7::.ev 8::.ev 9::l
abbrev ar7(l:List Stp):List Stp:=.ev 0::.ev 1::.ev 2::.ev 3::.ev 4::.ev 5::.ev 6::.ev 7::.ev 8::.ev 9::.ev 10::.ev 11::.ev 12::l
abbrev ar8(l:List Stp):List Stp:=.ev 0::.ev 1::.ev 2::.ev 3::.ev 4::.ev 5::.ev 6::.ev 7::.ev 8::.ev 9::.ev 10::.ev 11::.ev 12::.ev 13::.ev 14::.ev 15::.ev 16::l
def jD(a0:Array Oper)(done:List Nat):List Stp→Bool
 | []=>(Region.ready .any a0 (dN a0.size done)).isEmpty
 | .ev i::r=>(Region.ready .any a0 (dN a0.size done)).contains i && Region.free .any a0 (dN a0.size done) i && jD a0 (i::done) r
 | .ef i::r=>(Region.ready .any a0 (dN a0.size done) == [i]) && jD a0 (i::done) r
structure PE where
 idx:Nat
 op:Op
 ty:TypeId
 env:Env
 v:Value
def mg(P:Program)(a0:List PE)(S:Pend):Prop:=∀p∈S,(∀w,p.2 w)∨∃pe∈a0,pe.idx=p.1∧∃ρ o,Agr pe.env ρ∧o.op=pe.op∧o.type=pe.ty∧∀w,(execOp ρ o).run P w=.ok (.value pe.v) w→p.2 w
def dpB(a0:Array Oper)(j i:Nat):Bool:=depB a0 a0.size j i
class NoP (K:Post):Prop where
 no:∀c env L,¬K (.panic c) env L
 out:∀env L,¬K .outgrown env L
instance {n:Env→LH→Prop}{K:Post}[h:NoP K]:NoP (Post.seq n K):=⟨fun c env L=>h.no c env L,fun env L=>h.out env L⟩
instance {id:Nat}{K:Post}[h:NoP K]:NoP (Post.inBlock id K):=⟨fun c env L=>h.no c env L,fun env L=>h.out env L⟩
instance {P:Program}{N:Nat}{rs:List ResultVar}{post:Value→LH→Prop}:NoP (Ends P N rs post):=⟨(by
 rintro c env L ⟨h,_⟩;rcases h with h|h
 ·cases h
 ·cases h),(by
 rintro env L ⟨h,_⟩;rcases h with h|h
 ·cases h
 ·cases h)⟩
def GP(P:Program)(N:Nat)(a0:Array Oper)(done:List Nat)(plan:List Stp)(a1:List PE)(env:Env)(L:LH)(K:Post):Prop :=
 NoP K→jD a0 done plan=true→Region.noSelect a0=true→Closed .any a0 (dN a0.size done) →
 ∀θ Y a w S,At N env L θ Y a w→mg P a1 S→(∀p∈S,p.2 w) →
  wpAnyP P .any a0 (QK θ Y N K) (dpB a0) plan.length (dN a0.size done) S a w
def noDefer(a0:Array Oper):Bool:=a0.all fun o=>match o.op with
 | .defer _=>false
 | _=>true
def wV{a0:Array Oper}(h:noDefer a0=true){i:Nat}{o:Oper}(hi:a0[i]? = some o):∀c,o.op≠.defer c:=by
 intro c hc;have h1:=Array.all_eq_true.1 h i (Array.getElem?_eq_some_iff.1 hi).1;rw[(Array.getElem?_eq_some_iff.1 hi).2] at h1;simp[hc] at h1
def DH{P:Program}{r:Option Nat}{a0:Array Oper}{Q:Exit→Act→World→Prop}(hd:noDefer a0=true)(hq:¬LetsOut Q){i:Nat}{K K' : Act→World→Prop}{a:Act}{w:World}(hk:∀a w,K a w→K' a w)(h:wpOp P a0 Q i K a w):wpOpIn (FW r) 0 P a0 Q i K' a w:=by
 have h:=wpOp_mono hk h;unfold wpOp at h;unfold wpOpIn;cases hi:a0[i]? with
 | none=>simp only[hi] at h ⊢;exact h
 | some o =>
  simp only[hi] at h ⊢;split
  ·rename_i hw;simp only[hw,if_true] at h;rcases h with h|h
   ·exact mm (wV hd hi) h
   ·exact absurd h.2 hq
  ·rename_i hw;simp only[hw] at h;exact⟨fun _ _=>trivial,h⟩
def nU{P:Program}{r:Option Nat}{md:Region.Mode}{a1:Array Oper}{Q:Exit→Act→World→Prop}(hd:noDefer a1=true)(hq:¬LetsOut Q):∀(fuel:Nat) (a0:Array Bool) (a:Act) (w:World),wpAny P md a1 Q fuel a0 a w→wpAnyIn (FW r) 0 P md a1 Q fuel a0 a w
 | 0,_,_,_,h=>h
 | fuel+1,_,_,_,h=>⟨h.1,fun i hi=>DH hd hq (fun a w=>nU hd hq fuel _ a w) (h.2 i hi)⟩
def Stp.idx:Stp→Nat
 | .ev i=>i
 | .ef i=>i
def GPW(P:Program)(N:Nat)(a0:Array Oper)(done:List Nat)(s:Stp)(plan:List Stp)(a2:Option Tmp)(op:Op)(ty:TypeId)(a1:List PE)(env:Env)(L:LH)(K:Post):Prop :=
 ∀pos af g,a0[s.idx]? = some ⟨a2,op,ty,pos,af,g⟩→(∀a,EnvOk N env a→Region.wanted ⟨a2,op,ty,pos,af,g⟩ (yielded a0 a.tmps)=true)→GP P N a0 done (s::plan) a1 env L K
def GPK(P:Program)(N:Nat)(a2:Array Oper)(done:List Nat)(i:Nat)(plan:List Stp)(a1 acc:List PE)(env:Env)(L:LH)(K:Post):Prop :=
 ∃a0:List PE,(∀pe∈a1,dpB a2 i pe.idx=true∨(pe∈a0∧Ev P L pe.env pe.op pe.ty pe.v))∧(∀pe∈acc,pe∈a0)∧GP P N a2 (i::done) plan a0 env L K
section gp
variable {P:Program}{N:Nat}{ops:Array Oper}{done:List Nat}{plan:List Stp}{pend:List PE}{env:Env}{L:LH}{K:Post}
def G.l7{id:Nat}{l:List Oper}(plan:List Stp)[hK:NoP K](hm:P.follows .mixedOrders=true)(hp:(jD l.toArray [] plan && (plan.length == l.toArray.size) && Region.noSelect l.toArray && noDefer l.toArray)=true)(h:GP P N l.toArray [] plan [] env L K):G P N (.region id l.toArray true) env L K:=by
 intro r θ Y a w hr i;simp only[Bool.and_eq_true,beq_iff_eq] at hp;obtain⟨⟨⟨h1,h2⟩,h3⟩,h4⟩:=hp;refine wpIn_region_any hm (nU h4 (by rintro⟨a',w',env,L,_,h⟩;exact hK.out env L h) _ _ _ _ (wpAnyP.d7 (dep:=dpB l.toArray) _ _ [] _ _ ?_));obtain⟨M,ea,a0,s⟩:=i;have:=h hK h1 h3 (Closed.d7 _) θ Y a { w with drawn:=w.drawn+1 } [] ⟨M,ea,a0,s.drew⟩ (by intro p hp;cases hp) (by simp)
 rw[h2] at this;exact this
def GP.nil(h:K .normal env L):GP P N ops done [] pend env L K:=by
 intro _ hp _ _ θ Y a w S i _ _;simp only[jD,List.isEmpty_iff] at hp;exact⟨hp,env,L,i,h⟩
def yh{θ:Th}{R:LH}(hK:NoP K)(c:List PanicEntry)(a:Act)(w:World):¬QK θ R N K (.panic c) a w:=fun⟨env,L,_,h⟩=>hK.no c env L h
def GP.d8{i d:Nat}{op:Op}{ty:TypeId}{pos:String}{af:Array Edge}{g:Option (Nat×Bool)}{v:Value}{a0 : List PE}(hi:ops[i]? = some ⟨some d,op,ty,pos,af,g⟩)(hd:d<N)
  (hy:∀θ R a w,EnvOk N env a→Sat θ (L++R) w→∃Si,YieldsIf P ops Si ⟨some d,op,ty,pos,af,g⟩ v a∧Si w∧∀S,mg P pend S→mg P a0 ((i,Si)::S))
  (h:GP P N ops (i::done) plan a0 ((d,v)::env) L K):GP P N ops done (.ev i::plan) pend env L K:=by
 intro hK hp hs a2 θ Y a w S i0 a6 a3;simp only[jD,Bool.and_eq_true,List.contains_iff_mem] at hp;obtain⟨⟨h1,h2⟩,h3⟩:=hp;obtain⟨M,ea,a5,s⟩:=i0;obtain⟨Si,a7,a4,a8⟩:=hy θ _ a w ea s
 have a1:∀p∈(i,Si)::S,p.2 w:=fun p hp=>by
  rcases List.mem_cons.1 hp with rfl|hp
  ·exact a4
  ·exact a3 p hp
 refine wpAnyP.first hi (Region.noSelect_spec hs) (fun c a w q=>(yh hK c _ w q).elim) (fun j hj=>rH _ j i hj) _ _ S a w a2 (Region.free_spec hi h2) h1 a7 a4 a3 ?_;exact h hK h3 hs (a2.set h1) θ Y (a.put (some d) v) w _ ⟨M,ea.put hd v,by rw[defers_put];exact a5,s⟩ (a8 S a6) a1
def GPW.evP{i d:Nat}{op:Op}{ty:TypeId}{v:Value}(he:Ev P [] env op ty v)(hd:d<N)(h:GP P N ops (i::done) plan pend ((d,v)::env) L K):GPW P N ops done (.ev i) plan (some d) op ty pend env L K:=by
 intro pos af g hi hw;refine GP.d8 hi hd (fun θ R a w ea s=>⟨fun _=>True,.inl ⟨hw a ea,?_⟩,trivial,fun S hS p hp=>?_⟩) h
 ·intro w' _;exact he ⟨w'.tape,w'.os,w'.output,0⟩ [] a.eval w' _ ea.agr ⟨⟨rfl,rfl,rfl,Nat.zero_le _⟩,Hp.emp,Hp.emp,Hp.d8 _,Hp.d7 _,Hp.d7 _,trivial⟩ rfl rfl
 ·rcases List.mem_cons.1 hp with rfl|hp
  ·exact .inl fun _=>trivial
  ·exact hS p hp
def GPW.evL{i d:Nat}{op:Op}{ty:TypeId}{v:Value}(he:Ev P L env op ty v)(hd:d<N)(h:GP P N ops (i::done) plan (⟨i,op,ty,env,v⟩::pend) ((d,v)::env) L K):GPW P N ops done (.ev i) plan (some d) op ty pend env L K:=by
 intro pos af g hi hw;refine GP.d8 hi hd (fun θ R a w ea s=>⟨fun w'=>(execOp a.eval ⟨some d,op,ty,pos,af,g⟩).run P w' = .ok (.value v) w',.inl ⟨hw a ea,fun w' h=>h⟩,he θ R a.eval w _ ea.agr s rfl rfl,fun S hS p hp=>?_⟩) h;rcases List.mem_cons.1 hp with rfl|hp
 ·exact .inr ⟨_,List.mem_cons_self,rfl,a.eval,_,ea.agr,rfl,rfl,fun w h=>h⟩
 ·rcases hS p hp with h|⟨pe,h1,h2⟩
  ·exact .inl h
  ·exact .inr ⟨pe,List.mem_cons_of_mem _ h1,h2⟩
def GP.d9{i d:Nat}{op:Op}{ty:TypeId}{pos:String}{af:Array Edge}{g:Option (Nat×Bool)}(hi:ops[i]? = some ⟨some d,op,ty,pos,af,g⟩)(hd:d<N)(hw:∀a,EnvOk N env a→Region.wanted ⟨some d,op,ty,pos,af,g⟩ (yielded ops a.tmps)=false)
  (h:GP P N ops (i::done) plan pend ((d,undef)::env) L K):GP P N ops done (.ev i::plan) pend env L K:=by
 refine GP.d8 hi hd (fun θ R a w ea s=>⟨fun _=>True,.inr ⟨hw a ea,rfl⟩,trivial,fun S hS p hp=>?_⟩) h;rcases List.mem_cons.1 hp with rfl|hp
 ·exact .inl fun _=>trivial
 ·exact hS p hp
def GPK.nil{i:Nat}{acc:List PE}(h:GP P N ops (i::done) plan acc env L K):GPK P N ops done i plan [] acc env L K:=⟨acc,(by intro pe h;cases h),fun _ h=>h,h⟩
def GPK.drop{i:Nat}{pe:PE}{ts acc:List PE}(hd:dpB ops i pe.idx=true)(h:GPK P N ops done i plan ts acc env L K):GPK P N ops done i plan (pe::ts) acc env L K:=by
 obtain⟨a0,h1,h2,h3⟩:=h;refine⟨a0,fun p hp=>?_,h2,h3⟩;rcases List.mem_cons.1 hp with rfl|hp
 ·exact .inl hd
 ·exact h1 p hp
def GPK.keep{i k:Nat}{op:Op}{ty:TypeId}{env' : Env}{v:Value}{ts acc:List PE}(hd:Ev P L env' op ty v)(h:GPK P N ops done i plan ts (⟨k,op,ty,env',v⟩::acc) env L K):GPK P N ops done i plan (⟨k,op,ty,env',v⟩::ts) acc env L K:=by
 obtain⟨a0,h1,h2,h3⟩:=h;refine⟨a0,fun p hp=>?_,fun p hp=>h2 p (List.mem_cons_of_mem _ hp),h3⟩;rcases List.mem_cons.1 hp with rfl|hp
 ·exact .inr ⟨h2 _ List.mem_cons_self,hd⟩
 ·exact h1 p hp
def GPK.step{i:Nat}(h:GPK P N ops done i plan pend [] env L K){θ:Th}{R:LH}{a:Act}{w:World}{S:Pend}(hK:NoP K)(h3:jD ops (i::done) plan=true)(hs:Region.noSelect ops=true)(a3:Closed .any ops (dN ops.size (i::done)))(i0:At N env L θ R a w)(a7:mg P pend S) :
  (∀p∈kp (dpB ops) i S,p.2 w)∧wpAnyP P .any ops (QK θ R N K) (dpB ops) plan.length (dN ops.size (i::done)) (kp (dpB ops) i S) a w:=by
 obtain⟨a1,k1,_,k3⟩:=h;obtain⟨M,ea,a5,s⟩:=i0
 have a0:∀p∈kp (dpB ops) i S,p.2 w∧((∀w,p.2 w)∨∃pe∈a1,pe.idx=p.1∧∃ρ o,Agr pe.env ρ∧o.op=pe.op∧o.type=pe.ty∧∀w,(execOp ρ o).run P w=.ok (.value pe.v) w→p.2 w):=by
  intro p hp;obtain⟨a6,a2⟩:=List.mem_filter.1 hp;rcases a7 p a6 with h|⟨pe,h1,h2,ρ,o,h4,h5,h6,h7⟩
  ·exact⟨h w,.inl h⟩
  ·rcases k1 pe h1 with hd|⟨hk,a4⟩
   ·rw[h2] at hd;rw[hd] at a2;simp at a2
   ·exact⟨h7 w (a4 θ _ ρ w o h4 s h5 h6),.inr ⟨pe,hk,h2,ρ,o,h4,h5,h6,h7⟩⟩
 exact⟨fun p hp=>(a0 p hp).1,k3 hK h3 hs a3 θ R a w _ ⟨M,ea,a5,s⟩ (fun p hp=>(a0 p hp).2) (fun p hp=>(a0 p hp).1)⟩
def GPW.ef{i d:Nat}{op:Op}{ty:TypeId}{post:Value→LH→Prop}(he:Ef P L env op ty post)(hd:d<N)(h:∀v L',post v L'→GPK P N ops done i plan pend [] ((d,v)::env) L' K):GPW P N ops done (.ef i) plan (some d) op ty pend env L K:=by
 intro pos af g hi hw hK hp hs a1 θ Y a w S i0 a6 a7;obtain⟨M,ea,a5,s⟩:=i0;simp only[jD,Bool.and_eq_true,beq_iff_eq] at hp;obtain⟨h1,h3⟩:=hp;have a3:i∈Region.ready .any ops (dN ops.size done):=by rw[h1];exact List.mem_singleton.2 rfl
 refine⟨fun h0=>(by rw[h0] at h1;cases h1),fun j hj=>?_⟩;rw[h1] at hj;have a4:j=i:=List.mem_singleton.1 hj;subst a4;have a2 : ops[j]? = some ⟨some d,op,ty,pos,af,g⟩:=hi;unfold wpOp;simp only[a2,hw a ea,if_true];refine .inl (he θ _ a w _ _ _ ea.agr s rfl rfl fun v L' w' a0 s'=>?_);exact(h v L' a0).step hK h3 hs (a1.set a3) ⟨M,ea.put hd v,by rw[defers_put];exact a5,s'⟩ a6
def GPW.efu{i:Nat}{op:Op}{ty:TypeId}{post:Value→LH→Prop}(he:Ef P L env op ty post)(h:∀v L',post v L'→GPK P N ops done i plan pend [] env L' K):GPW P N ops done (.ef i) plan none op ty pend env L K:=by
 intro pos af g hi hw hK hp hs a1 θ Y a w S i0 a6 a7;obtain⟨M,ea,a5,s⟩:=i0;simp only[jD,Bool.and_eq_true,beq_iff_eq] at hp;obtain⟨h1,h3⟩:=hp;have a3:i∈Region.ready .any ops (dN ops.size done):=by rw[h1];exact List.mem_singleton.2 rfl
 refine⟨fun h0=>(by rw[h0] at h1;cases h1),fun j hj=>?_⟩;rw[h1] at hj;have a4:j=i:=List.mem_singleton.1 hj;subst a4;have a2 : ops[j]? = some ⟨none,op,ty,pos,af,g⟩:=hi;unfold wpOp;simp only[a2,hw a ea,if_true];refine .inl (he θ _ a w _ _ _ ea.agr s rfl rfl fun v L' w' a0 s'=>?_);exact(h v L' a0).step hK h3 hs (a1.set a3) ⟨M,ea,a5,s'⟩ a6
def GP.d7{i d:Nat}{op:Op}{ty:TypeId}{pos:String}{af:Array Edge}{g:Option (Nat×Bool)}(hi:ops[i]? = some ⟨some d,op,ty,pos,af,g⟩)(hd:d<N)(hw:∀a,EnvOk N env a→Region.wanted ⟨some d,op,ty,pos,af,g⟩ (yielded ops a.tmps)=false)
  (h:GP P N ops (i::done) plan pend ((d,undef)::env) L K):GP P N ops done (.ef i::plan) pend env L K:=by
 intro hK hp hs a1 θ Y a w S i0 a4 a0;simp only[jD,Bool.and_eq_true,beq_iff_eq] at hp;obtain⟨h1,h3⟩:=hp;have ea:=i0.eok;have a2:i∈Region.ready .any ops (dN ops.size done):=by rw[h1];exact List.mem_singleton.2 rfl
 refine⟨fun h0=>(by rw[h0] at h1;cases h1),fun j hj=>?_⟩;rw[h1] at hj;have a3:j=i:=List.mem_singleton.1 hj;subst a3;unfold wpOp;simp only[hi,hw a ea,Bool.false_eq_true,if_false];exact⟨fun p hp=>a0 p (List.mem_filter.1 hp).1,h hK h3 hs (a1.set a2) θ Y _ w _ (i0.put hd undef) (fun p hp=>a4 p (List.mem_filter.1 hp).1) (fun p hp=>a0 p (List.mem_filter.1 hp).1)⟩
def GP.go{s:Stp}{a0:Option Tmp}{op:Op}{ty:TypeId}{pos:String}{af:Array Edge}(hi:ops[s.idx]? = some ⟨a0,op,ty,pos,af,none⟩)(h:GPW P N ops done s plan a0 op ty pend env L K):GP P N ops done (s::plan) pend env L K :=
 h pos af none hi fun _ _=>rfl
def nT{j t:Nat}{v:Value}(hj:(ops[j]?).bind (·.dst)=some t)(ht:env.lookup t=some v){a:Act}(ea:EnvOk N env a):yielded ops a.tmps j=match v with | .bool b=>some b|_=>none:=by
 unfold yielded;rw[hj];simp only[Option.bind_some,ea.at_ t _ ht];cases v<;>rfl
def GP.env_cons{t:Nat}{v:Value}(ht:env.lookup t=some v)(h:GP P N ops done plan pend ((t,v)::env) L K):GP P N ops done plan pend env L K :=
 fun hK hp hs a0 θ R a w S i a1 a2=>h hK hp hs a0 θ R a w S (i.less (EnvSub.cons ht (EnvSub.refl _)) (Ent.refl _)) a1 a2
def GP.guard{s:Stp}{d:Nat}{op:Op}{ty:TypeId}{pos:String}{af:Array Edge}{j t:Nat}{b c:Bool}(hi:ops[s.idx]? = some ⟨some d,op,ty,pos,af,some (j,b)⟩)(hj:(ops[j]?).bind (·.dst)=some t)(ht:env.lookup t=some (.bool c))(hd:d<N)
  (hy:c=b→GPW P N ops done s plan (some d) op ty pend env L K) (hn:c≠b→GP P N ops (s.idx::done) plan pend ((d,undef)::env) L K):GP P N ops done (s::plan) pend env L K:=by
 by_cases a0:c=b
 ·subst a0;exact hy rfl pos af _ hi fun a ea=>by simp[Region.wanted,nT hj ht ea]
 ·have hw:∀a,EnvOk N env a→Region.wanted ⟨some d,op,ty,pos,af,some (j,b)⟩ (yielded ops a.tmps)=false:=fun a ea=>by
   simp[Region.wanted,nT hj ht ea,a0]
  cases s with
  | ev i=>exact GP.d9 hi hd hw (hn a0)
  | ef i=>exact GP.d7 hi hd hw (hn a0)
def GP.e7{s:Stp}{d:Nat}{op:Op}{ty:TypeId}{pos:String}{af:Array Edge}{j t:Nat}{b:Bool}(hi:ops[s.idx]? = some ⟨some d,op,ty,pos,af,some (j,b)⟩)(hj:(ops[j]?).bind (·.dst)=some t)(ht:env.lookup t=some undef)(hd:d<N)
  (hn:GP P N ops (s.idx::done) plan pend ((d,undef)::env) L K):GP P N ops done (s::plan) pend env L K:=by
 have hw:∀a,EnvOk N env a→Region.wanted ⟨some d,op,ty,pos,af,some (j,b)⟩ (yielded ops a.tmps)=false:=fun a ea=>by
  simp[Region.wanted,nT hj ht ea,undef]
 cases s with
 | ev i=>exact GP.d9 hi hd hw hn
 | ef i=>exact GP.d7 hi hd hw hn
def GP.e8{s:Stp}{d:Nat}{op:Op}{ty:TypeId}{pos:String}{af:Array Edge}{j t:Nat}{c:Bool}(hi:ops[s.idx]? = some ⟨some d,op,ty,pos,af,some (j,true)⟩)(hj:(ops[j]?).bind (·.dst)=some t)(ht:env.lookup t=some (.bool c))(hd:d<N)
  (h:GB c (GPW P N ops done s plan (some d) op ty pend env L K) (GP P N ops done (s::plan) pend ((t,.bool true)::env) L K) (GP P N ops (s.idx::done) plan pend ((d,undef)::env) L K) (GP P N ops done (s::plan) pend ((t,.bool false)::env) L K)):GP P N ops done (s::plan) pend env L K:=by
 cases c with
 | true =>
  rcases h.1 rfl with h|h
  ·exact GP.guard hi hj ht hd (fun _=>h) (fun h=>absurd rfl h)
  ·exact h.env_cons ht
 | false =>
  rcases h.2 rfl with h|h
  ·exact GP.guard hi hj ht hd (fun h=>by cases h) (fun _=>h)
  ·exact h.env_cons ht
def GP.e9{s:Stp}{d:Nat}{op:Op}{ty:TypeId}{pos:String}{af:Array Edge}{j t:Nat}{c:Bool}(hi:ops[s.idx]? = some ⟨some d,op,ty,pos,af,some (j,false)⟩)(hj:(ops[j]?).bind (·.dst)=some t)(ht:env.lookup t=some (.bool c))(hd:d<N)
  (h:GB c (GP P N ops (s.idx::done) plan pend ((d,undef)::env) L K) (GP P N ops done (s::plan) pend ((t,.bool true)::env) L K) (GPW P N ops done s plan (some d) op ty pend env L K) (GP P N ops done (s::plan) pend ((t,.bool false)::env) L K)):GP P N ops done (s::plan) pend env L K:=by
 cases c with
 | true =>
  rcases h.1 rfl with h|h
  ·exact GP.guard hi hj ht hd (fun h=>by cases h) (fun _=>h)
  ·exact h.env_cons ht
 | false =>
  rcases h.2 rfl with h|h
  ·exact GP.guard hi hj ht hd (fun _=>h) (fun h=>absurd rfl h)
  ·exact h.env_cons ht
def GP.conseq{env' : Env}(he:EnvSub env env')(h:GP P N ops done plan pend env' L K):GP P N ops done plan pend env L K :=
 fun hK hp hs a0 θ R a w S i a1 a2=>h hK hp hs a0 θ R a w S (i.less he (Ent.refl _)) a1 a2
