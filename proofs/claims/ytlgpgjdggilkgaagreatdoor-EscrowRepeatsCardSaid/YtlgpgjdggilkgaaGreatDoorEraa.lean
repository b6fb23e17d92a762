/- The logic of heaps: assertions about owned and immutable blocks, and judgements about code and operations. Holds for any program; no condition. -/
import Derived.WalkKit
import Derived.Orders
import Derived.Deep.LoopGhost
import Derived.OrdersIn
import Derived.TacticsIn
import Derived.RangeFuncLeaves
set_option linter.all false
namespace Go.V
theorem μ.{u}{c:Prop}{h:Decidable c}(k:c){α:Sort u}{t e:α}:ite c t e=t:=if_pos k
theorem Ω.{u}{c:Prop}{h:Decidable c}(k:¬c){α:Sort u}{t e:α}:ite c t e=e:=if_neg k
def iW.{u}{a:Prop}{b:Sort u}(h:a)(k:¬a):b:=absurd h k
theorem D6.{u}{α:Type u}{a b:α}(h:b∈[a]):b=a:=List.mem_singleton.1 h
theorem It.{u}{α:Type u}{a:α}{s t:List α}(h:a∈s++t):a∈s\/a∈t:=List.mem_append.1 h
theorem IY.{u,v}{α:Type u}{β:Type v}{b:β}{f:α->β}{l:List α}(h:b∈l.map f):∃a,a∈l/\f a=b:=List.mem_map.1 h
theorem Jr.{u}{α:Type u}{a b:α}{l:List α}(h:a∈b::l):a=b\/a∈l:=List.mem_cons.1 h
theorem O9.{u}{α:Type u}{a b:α}(h:some a=some b):a=b:=Option.some.inj h
abbrev LV:=List Value
abbrev OA:=Option Addr
abbrev Hp:=Nat->Option Obj
def Hp.sub(a b:Hp):Prop:=∀k o,a k=some o->b k=some o
def Hp.Li(a b:Hp):Prop:=∀k o,a k=some o->b k=none
def Hp.c8(a b:Hp):Hp:=λk=>(a k).or (b k)
def Hp.emp:Hp:=λ_=>none
def Hp.sub.refl(a:Hp):Hp.sub a a:=λ_ _ h=>h
def Hp.sub.trans{a b c:Hp}(h:Hp.sub a b)(k:Hp.sub b c):Hp.sub a c:=λi o x=>k i o (h i o x)
def Hp.Li.symm{a b:Hp}(h:Hp.Li a b):Hp.Li b a:=by
 intro k o hb;cases ha:a k with
 | none=>rfl
 | some x=>have:=h k x ha;rw[hb] at this;cases this
def Hp.Li.mono{a b a' b' : Hp}(h:Hp.Li a b)(ha:Hp.sub a' a)(hb:Hp.sub b' b):Hp.Li a' b':=by
 intro k o x;have J:=h k o (ha k o x);cases hk:b' k with
 | none=>rfl
 | some y=>have:=hb k y hk;rw[J] at this;cases this
def Hp.c7(a:Hp):Hp.Li Hp.emp a:=λ_ _ h=>by cases h
def Hp.a8(a:Hp):Hp.sub Hp.emp a:=λ_ _ h=>by cases h
def Hp.d7(a b:Hp):Hp.sub a (Hp.c8 a b):=λk o h=>by simp[Hp.c8,h]
def Hp.c9{a b:Hp}(h:Hp.Li a b):Hp.sub b (Hp.c8 a b):=λk o hk=>by
 have:=h.symm k o hk
 simp[Hp.c8,this,hk]
def Hp.d9{a b c:Hp}(h:Hp.sub a c)(h' : Hp.sub b c):Hp.sub (Hp.c8 a b) c:=by
 intro k o hk;unfold Hp.c8 at hk;cases ha:a k with
 | none=>rw[ha] at hk;exact h' k o (by simpa using hk)
 | some x=>rw[ha] at hk;simp at hk;subst hk;exact h k x ha
def Hp.d8{a b c:Hp}(h:Hp.Li a b)(h' : Hp.Li a c):Hp.Li a (Hp.c8 b c):=by
 intro k o hk;simp[Hp.c8,h k o hk,h' k o hk]
abbrev HP:=Hp->Hp->Prop
abbrev LH:=List HP
def IC:LH->Hp->Hp->Prop
 | [],_,_=>True
 | p::L,ι,h=>∃F9 D7 C3,Hp.sub F9 ι/\Hp.Li D7 C3/\Hp.sub D7 h/\Hp.sub C3 h/\p F9 D7/\IC L ι C3
def IC.mono{L:LH}{ι ι' h h' : Hp}(hi:Hp.sub ι ι')(hh:Hp.sub h h')(s:IC L ι h):IC L ι' h':=by
 induction L generalizing h h' with
 | nil=>trivial
 | cons p L ih =>
  obtain⟨F9,D7,C3,a,b,c,Ξ,e,f⟩:=s;exact⟨F9,D7,C3,a.trans hi,b,c.trans hh,Ξ.trans hh,e,ih (Hp.sub.refl _) f⟩
def IC.swap{p q:HP}{L:LH}{ι h:Hp}(s:IC (p::q::L) ι h):IC (q::p::L) ι h:=by
 obtain⟨Na,D7,C3,I,b1,c1,d1,e1,Qf,h₃,h₄,a2,b2,c2,d2,e2,f2⟩:=s;have r:Hp.Li D7 h₄:=b1.mono (Hp.sub.refl _) d2;refine⟨Qf,h₃,Hp.c8 D7 h₄,a2,Hp.d8 (b1.mono (Hp.sub.refl _) c2).symm b2,c2.trans d1,Hp.d9 c1 (d2.trans d1),e2,?_⟩;exact⟨Na,D7,h₄,I,r,Hp.d7 _ _,Hp.c9 r,e1,f2⟩
def IC.perm{L Y : LH}(hp:L.Perm Y):∀{ι h:Hp},IC L ι h->IC Y ι h:=by
 induction hp with
 | nil=>exact λs=>s
 | cons p _ ih=>exact λ⟨F9,D7,C3,a,b,c,Ξ,e,f⟩=>⟨F9,D7,C3,a,b,c,Ξ,e,ih f⟩
 | swap p q l=>exact λs=>s.swap
 | trans _ _ ih1 ih2=>exact λs=>ih2 (ih1 s)
def IC.split{Μ cq:LH}{ι h:Hp}(s:IC (Μ++cq) ι h):∃D7 C3,Hp.Li D7 C3/\Hp.sub D7 h/\Hp.sub C3 h/\IC Μ ι D7/\IC cq ι C3:=by
 induction Μ generalizing h with
 | nil=>exact⟨Hp.emp,h,Hp.c7 _,Hp.a8 _,Hp.sub.refl _,trivial,s⟩
 | cons p Μ ih =>
  obtain⟨F9,x₁,x₂,a,b,c,Ξ,e,f⟩:=s;obtain⟨y₁,y₂,g1,g2,g3,g4,g5⟩:=ih f;have J:Hp.Li x₁ y₁:=b.mono (Hp.sub.refl _) g2;refine⟨Hp.c8 x₁ y₁,y₂,(Hp.d8 (b.mono (Hp.sub.refl _) g3).symm g1.symm).symm,Hp.d9 c (g2.trans Ξ),g3.trans Ξ,?_,g5⟩;exact⟨F9,x₁,y₁,a,J,Hp.d7 _ _,Hp.c9 J,e,g4⟩
def IC.a8{Μ cq:LH}{ι h D7 C3:Hp}(hd:Hp.Li D7 C3)(s1:Hp.sub D7 h)(s2:Hp.sub C3 h)(a:IC Μ ι D7)(b:IC cq ι C3):IC (Μ++cq) ι h:=by
 induction Μ generalizing h D7 with
 | nil=>exact b.mono (Hp.sub.refl _) s2
 | cons p Μ ih =>
  obtain⟨F9,x₁,x₂,I,b1,c1,d1,e1,f1⟩:=a;have r:Hp.Li x₂ C3:=hd.mono d1 (Hp.sub.refl _);refine⟨F9,x₁,Hp.c8 x₂ C3,I,Hp.d8 b1 (hd.mono c1 (Hp.sub.refl _)),c1.trans s1,Hp.d9 (d1.trans s1) s2,e1,?_⟩;exact ih r (Hp.d7 _ _) (Hp.c9 r) f1
structure Th where
 tape:Nat->Question->Nat
 os:Os
 output:Array (Nat×ByteArray)
 lo:Nat
structure Th.ok (θ:Th) (w:World):Prop where
 tape:w.tape=θ.tape
 os:w.os=θ.os
 output:w.output=θ.output
 drawn:θ.lo<=w.drawn
def Eb{α:Type}:∀(m:Ask α) (w:World),w.drawn<=(w.ask m).2.drawn:=by
 intro m;induction m with
 | done a=>intro w;exact Nat.le_refl _
 | ask what range k ih =>
  intro w;simp only[World.ask];split
  .exact ih _ w
  .exact Nat.le_trans (Nat.le_succ _) (ih _ { w with drawn:=w.drawn+1 })
def qX{p:Program}{w ab : World}{at_:Addr}{u:TypeId}{k:Addr}{v:Value}{r:Bool}{l:List Addr}(h:w.viewStore p at_ u k v r=.ok (ab,l)):ab.drawn=w.drawn:=by
 simp only[World.viewStore,bind,Except.bind,pure,Except.pure,throw,throwThe,MonadExceptOf.throw] at h;repeat' (split at h)
 all_goals first|(simp only[Except.ok.injEq,Prod.mk.injEq] at h;obtain⟨rfl,_⟩:=h;rfl)|cases h
def kK{α:Type}{P:Program}:∀(m:Sem α) {w ab : World} {x:α},m.run P w=.ok x ab->w.drawn<=ab.drawn:=by
 intro m;induction m with
 | pure a=>intro w ab x h;simp only[Sem.run,Result.ok.injEq] at h;obtain⟨_,rfl⟩:=h;exact Nat.le_refl _
 | load m a k ih =>
  intro w ab x h;simp only[Sem.run] at h;split at h
  .exact ih _ h
  .split at h
   .exact ih _ h
   .cases h
 | store m a v k ih =>
  intro w ab x h
  have go:(match w.cell? a with
    | some _ => if w.frozen? a then .halt (.unsupported (.unsafePointer "a write to bytes that a string shares")) w else k.run P (w.setCell a v)
    | none=>match w.farStore P a v (m == .atomic) with
     | .ok (w,_)=>k.run P w
     | .error h=>.halt h w)=Result.ok x ab->w.drawn<=ab.drawn:=by
   intro h;split at h
   .split at h
    .cases h
    .exact ih (w:=w.setCell a v) h
   .split at h
    .rename_i U;unfold World.farStore at U;split at U
     .split at U
      .rename_i h3;cases U;have:=qX h3
       have:=ih h
       omega
      .cases U
     .cases U
    .cases h
  cases v;all_goals first|exact go h|(simp only[Sem.run] at h;cases h)
 | new o k ih=>intro w ab x h;exact ih _ (w:={ w with heap:=w.heap.push o }) h
 | shape Θ k ih=>intro w ab x h;exact ih _ h
 | freeze a n k ih =>
  intro w ab x h;have J:=ih (w:=w.freeze a n) h;have U:(w.freeze a n).drawn=w.drawn:=by unfold World.freeze;split<;>rfl
  omega
 | frozen a k ih=>intro w ab x h;exact ih _ h
 | getObj Θ k ih =>
  intro w ab x h;simp only[Sem.run] at h;split at h
  .cases h
  .exact ih _ h
  .cases h
 | setObj Θ o k ih =>
  intro w ab x h;simp only[Sem.run] at h;split at h
  .cases h
  .exact ih (w:={ w with heap:=w.heap.setIfInBounds Θ o }) h
  .cases h
 | choose q k ih =>
  intro w ab x h;simp only[Sem.run] at h;split at h
  .exact ih _ h
  .exact Nat.le_trans (Nat.le_succ _) (ih _ h)
 | sys c k ih =>
  intro w ab x h;simp only[Sem.run] at h;have J:=ih _ h;refine Nat.le_trans ?_ J;unfold World.sys;have U:=Eb (Kernel.perform c w.os) w;split
  .exact Nat.le_refl _
  .rename_i heq;rw[heq] at U;exact U
 | program k ih=>intro w ab x h;exact ih _ h
 | mark m k ih=>intro w ab x h;exact ih h
 | halt h=>intro w ab x h;cases h
def gk(w:World):Hp:=λk=>w.heap[k]?
def Sat(θ:Th)(L:LH)(w:World):Prop :=
 θ.ok w/\∃ι h,Hp.Li ι h/\Hp.sub ι (gk w)/\Hp.sub h (gk w)/\IC L ι h
def Sat.perm{θ:Th}{L Y : LH}{w:World}(s:Sat θ L w)(hp:L.Perm Y):Sat θ Y w :=
 let ⟨h0,ι,h,a,b,c,Ξ⟩:=s;⟨h0,ι,h,a,b,c,Ξ.perm hp⟩
def Sat.tail{θ:Th}{p:HP}{L:LH}{w:World}(s:Sat θ (p::L) w):Sat θ L w :=
 let ⟨h0,ι,h,a,b,c,_,_,_,_,_,_,x,_,y⟩:=s;⟨h0,ι,h,a,b,c,y.mono (Hp.sub.refl _) x⟩
def Sat.keep{θ:Th}{L:LH}{w ab : World}(s:Sat θ L w)(ok:θ.ok ab)(hk:∀(k:Nat) (o:Obj),w.heap[k]? = some o->ab.heap[k]? = some o):Sat θ L ab :=
 let ⟨_,ι,h,a,b,c,Ξ⟩:=s;⟨ok,ι,h,a,λk o x=>hk k o (b k o x),λk o x=>hk k o (c k o x),Ξ⟩
def Sat.drew{θ:Th}{L:LH}{w:World}(s:Sat θ L w):Sat θ L { w with drawn:=w.drawn+1 } :=
 s.keep ⟨s.1.tape,s.1.os,s.1.output,Nat.le_succ_of_le s.1.drawn⟩ (λ_ _ h=>h)
def h1(b:Nat)(o:Obj):HP:=λ_ h=>h b=some o
def RE(b:Nat)(o:Obj):HP:=λι _=>ι b=some o
def dp(φ:Prop):HP:=λ_ _=>φ
def hex{α:Type}(f:α->HP):HP:=λι h=>∃x,f x ι h
def bW(L:LH):HP:=λι h=>IC L ι h
def Sat.IN{θ:Th}{b:Nat}{o:Obj}{L:LH}{w:World}(s:Sat θ (h1 b o::L) w):w.heap[b]? = some o:=by
 obtain⟨_,ι,h,a,b1,c,F9,D7,C3,d1,d2,d3,d4,d5,d6⟩:=s;exact c b o (d3 b o d5)
def Sat.update{θ:Th}{b:Nat}{o o' : Obj}{L:LH}{w ab : World}(s:Sat θ (h1 b o::L) w)(ok:θ.ok ab)
  (hb:ab.heap[b]? = some o') (hk:∀(k:Nat) (x:Obj),k≠b->w.heap[k]? = some x->ab.heap[k]? = some x):Sat θ (h1 b o'::L) ab:=by
 obtain⟨_,ι,h,a,b1,c,F9,D7,C3,d1,d2,d3,d4,d5,d6⟩:=s;have a3:h b=some o:=d3 b o d5;have a2:ι b=none:=a.symm b o a3;have I:C3 b=none:=d2 b o d5;refine⟨ok,ι,λk=>if k=b then some o' else C3 k,?_,?_,?_,F9,λk=>if k=b then some o' else none,C3,d1,?_,?_,?_,by simp[h1],d6⟩
 .intro k x K;by_cases r:k=b
  .subst r;rw[a2] at K;cases K
  .simp only[r,if_false];exact(a.mono (Hp.sub.refl _) d4) k x K
 .intro k x K;by_cases r:k=b
  .subst r;rw[a2] at K;cases K
  .exact hk k x r (b1 k x K)
 .intro k x K;by_cases r:k=b
  .subst r;simp at K;subst K;exact hb
  .simp only[r,if_false] at K;exact hk k x r (c k x (d4 k x K))
 .intro k x K;by_cases r:k=b
  .subst r;exact I
  .simp[r] at K
 .intro k x K;by_cases r:k=b
  .simpa [r] using K
  .simp[r] at K
 .intro k x K;by_cases r:k=b
  .subst r;rw[I] at K;cases K
  .simpa [r] using K
def Sat.fresh{θ:Th}{b:Nat}{o:Obj}{L:LH}{w ab : World}(s:Sat θ L w)(ok:θ.ok ab)(hn:w.heap.size<=b)
  (hb:ab.heap[b]? = some o) (hk:∀(k:Nat) (x:Obj),w.heap[k]? = some x->ab.heap[k]? = some x):Sat θ (h1 b o::L) ab:=by
 obtain⟨_,ι,h,a,b1,c,Ξ⟩:=s
 have I:∀g:Hp,Hp.sub g (gk w)->g b=none:=λg hg=>by
  cases K:g b with
  | none=>rfl
  | some x =>
   have J:w.heap[b]? = some x:=hg b x K;rw[Array.getElem?_eq_none hn] at J;cases J
 have hi:=I ι b1;have hh:=I h c;refine⟨ok,ι,λk=>if k=b then some o else h k,?_,λk x K=>hk k x (b1 k x K),?_,Hp.emp,λk=>if k=b then some o else none,h,Hp.a8 _,?_,?_,?_,by simp[h1],Ξ⟩
 .intro k x K;by_cases r:k=b
  .subst r;rw[hi] at K;cases K
  .simp only[r,if_false];exact a k x K
 .intro k x K;by_cases r:k=b
  .subst r;simp at K;subst K;exact hb
  .simp only[r,if_false] at K;exact hk k x (c k x K)
 .intro k x K;by_cases r:k=b
  .subst r;exact hh
  .simp[r] at K
 .intro k x K;by_cases r:k=b
  .simpa [r] using K
  .simp[r] at K
 .intro k x K;by_cases r:k=b
  .subst r;rw[hh] at K;cases K
  .simpa [r] using K
def Sat.alloc{θ:Th}{o:Obj}{L:LH}{w:World}(s:Sat θ L w):Sat θ (h1 w.heap.size o::L) (w.alloc o) :=
 s.fresh ⟨s.1.tape,s.1.os,s.1.output,s.1.drawn⟩ (Nat.le_refl _) (heap_alloc_new w o) (λk x K=>by
  rw[heap_alloc_old w o (Array.getElem?_eq_some_iff.1 K).1];exact K)
def Sat.freeze{θ:Th}{b:Nat}{o:Obj}{L:LH}{w:World}(s:Sat θ (h1 b o::L) w):Sat θ (RE b o::L) w:=by
 obtain⟨ok,ι,h,a,b1,c,F9,D7,C3,d1,d2,d3,d4,d5,d6⟩:=s;have I:C3 b=none:=d2 b o d5;refine⟨ok,λk=>if k=b then some o else ι k,C3,?_,?_,d4.trans c,λk=>if k=b then some o else none,Hp.emp,C3,?_,Hp.c7 _,Hp.a8 _,Hp.sub.refl _,by simp[RE],d6.mono ?_ (Hp.sub.refl _)⟩
 .intro k x K;by_cases r:k=b
  .subst r;exact I
  .simp only[r,if_false] at K;exact(a.mono (Hp.sub.refl _) d4) k x K
 .intro k x K;by_cases r:k=b
  .subst r;simp at K;subst K;exact c k o (d3 k o d5)
  .simp only[r,if_false] at K;exact b1 k x K
 .intro k x K;by_cases r:k=b
  .simpa [r] using K
  .simp[r] at K
 .intro k x K;by_cases r:k=b
  .subst r;have:=a k x K
   rw[d3 k o d5] at this;cases this
  .simpa [r] using K
def Sat.Nq{θ:Th}{φ:Prop}{L:LH}{w:World}(s:Sat θ (dp φ::L) w):φ:=by
 obtain⟨_,ι,h,a,b1,c,F9,D7,C3,d1,d2,d3,d4,d5,d6⟩:=s;exact d5
def Sat.Ox{θ:Th}{φ:Prop}{L:LH}{w:World}(s:Sat θ L w)(h:φ):Sat θ (dp φ::L) w:=by
 obtain⟨ok,ι,h',a,b1,c,Ξ⟩:=s;exact⟨ok,ι,h',a,b1,c,Hp.emp,Hp.emp,h',Hp.a8 _,Hp.c7 _,Hp.a8 _,Hp.sub.refl _,h,Ξ⟩
def Sat.NK{θ:Th}{α:Type}{f:α->HP}{L:LH}{w:World}(s:Sat θ (hex f::L) w):∃x,Sat θ (f x::L) w:=by
 obtain⟨ok,ι,h,a,b1,c,F9,D7,C3,d1,d2,d3,d4,⟨x,d5⟩,d6⟩:=s;exact⟨x,ok,ι,h,a,b1,c,F9,D7,C3,d1,d2,d3,d4,d5,d6⟩
def Sat.c9{θ:Th}{α:Type}{f:α->HP}{L:LH}{w:World}(x:α)(s:Sat θ (f x::L) w):Sat θ (hex f::L) w:=by
 obtain⟨ok,ι,h,a,b1,c,F9,D7,C3,d1,d2,d3,d4,d5,d6⟩:=s;exact⟨ok,ι,h,a,b1,c,F9,D7,C3,d1,d2,d3,d4,⟨x,d5⟩,d6⟩
def Sat.KY{θ:Th}{Μ L:LH}{w:World}(s:Sat θ (bW Μ::L) w):Sat θ (Μ++L) w:=by
 obtain⟨ok,ι,h,a,b1,c,F9,D7,C3,d1,d2,d3,d4,d5,d6⟩:=s;exact⟨ok,ι,h,a,b1,c,IC.a8 d2 d3 d4 (IC.mono d1 (Hp.sub.refl _) d5) d6⟩
def Sat.a8{θ:Th}{Μ L:LH}{w:World}(s:Sat θ (Μ++L) w):Sat θ (bW Μ::L) w:=by
 obtain⟨ok,ι,h,a,b1,c,Ξ⟩:=s;obtain⟨D7,C3,g1,g2,g3,g4,g5⟩:=Ξ.split;exact⟨ok,ι,h,a,b1,c,ι,D7,C3,Hp.sub.refl _,g1,g2,g3,g4,g5⟩
def PK(Μ:HP):Prop:=∀ι h,Μ ι h->Μ ι Hp.emp
def Sat.dup{θ:Th}{Μ:HP}(hA:PK Μ){L:LH}{w:World}(s:Sat θ (Μ::L) w):Sat θ (Μ::Μ::L) w:=by
 obtain⟨ok,ι,h,a,b1,c,F9,D7,C3,d1,d2,d3,d4,d5,d6⟩:=s;exact⟨ok,ι,h,a,b1,c,F9,Hp.emp,h,d1,Hp.c7 _,Hp.a8 _,Hp.sub.refl _,hA _ _ d5,F9,D7,C3,d1,d2,d3,d4,d5,d6⟩
def A(L Y : LH):Prop:=∀θ Α w,Sat θ (L++Α) w->Sat θ (Y++Α) w
def A.refl(L:LH):A L L:=λ_ _ _ h=>h
def A.trans{Μ cq C:LH}(h:A Μ cq)(k:A cq C):A Μ C:=λθ Α w s=>k θ Α w (h θ Α w s)
def A.perm{L Y : LH}(h:L.Perm Y):A L Y:=λ_ Α _ s=>s.perm (h.append_right Α)
def A.drop{p:HP}{L:LH}:A (p::L) L:=λ_ _ _ s=>s.tail
def A.cons{p:HP}{L Y : LH}(h:A L Y):A (p::L) (p::Y):=λθ Α w s =>
 ((h θ (p::Α) w ((show Sat θ (p::(L++Α)) w from s).perm List.perm_middle.symm)).perm List.perm_middle)
def A.append{Μ cq C F0:LH}(h:A Μ cq)(k:A C F0):A (Μ++C) (cq++F0):=by
 intro θ Α w s;rw[List.append_assoc] at s ⊢;have s1:=h θ _ w s;have s2:Sat θ (C++(cq++Α)) w:=s1.perm (by rw[<-List.append_assoc,<-List.append_assoc];exact List.perm_append_comm.append_right Α);have s3:=k θ _ w s2;exact s3.perm (by rw[<-List.append_assoc,<-List.append_assoc];exact List.perm_append_comm.append_right Α)
def A.nil(L:LH):A L []:=by
 intro θ Α w s;induction L with
 | nil=>exact s
 | cons p L ih=>exact ih s.tail
abbrev Env:=List (Nat×Value)
structure JI (N:Nat) (env:Env) (a:Act):Prop where
 size:a.tmps.size=N
 at_:∀t v,env.lookup t=some v->a.tmps[t]? = some v
def χ(env:Env):Operand->Option Value
 | .tmp t=>env.lookup t
 | .const v=>some v
 | .global g=>some (.pointer (some ⟨g,0,none⟩))
 | .func f=>some (.func (.func f) #[] #[])
def Lv(env:Env)(ρ:Operand->Value):Prop:=∀x v,χ env x=some v->ρ x=v
def aH{env:Env}{ρ:Operand->Value}(h:Lv env ρ){x:Operand}{v:Value}(K:χ env x=some v):ρ x=v:=h x v K
def JI.KF{N:Nat}{env:Env}{a:Act}(h:JI N env a):Lv env a.eval:=by
 intro x v K;cases x with
 | tmp t=>have:=h.at_ t v K;simp[Act.eval,this]
 | const c=>simpa [χ,Act.eval] using K
 | global g=>simpa [χ,Act.eval] using K
 | func f=>simpa [χ,Act.eval] using K
def eG(env:Env):List Operand->Option (LV)
 | []=>some []
 | x::Θ=>match χ env x,eG env Θ with
  | some v,some vs=>some (v::vs)
  | _,_=>none
def jF(env:Env):List (Nat×Operand)->Option (List (Nat×Value))
 | []=>some []
 | (i,x)::Θ=>match χ env x,jF env Θ with
  | some v,some vs=>some ((i,v)::vs)
  | _,_=>none
def Lv.list{env:Env}{ρ:Operand->Value}(h:Lv env ρ):∀(l:List Operand) (vs:LV),eG env l=some vs->l.map ρ=vs:=by
 intro l;induction l with
 | nil=>intro vs hv;simp[eG] at hv;simp[hv]
 | cons x l ih =>
  intro vs hv;simp only[eG] at hv;split at hv
  .rename_i v us J U;simp at hv;subst hv;simp[h x v J,ih us U]
  .cases hv
def Lv.pairs{env:Env}{ρ:Operand->Value}(h:Lv env ρ):∀(l:List (Nat×Operand)) (vs:List (Nat×Value)),jF env l=some vs->l.map (λp=>(p.1,ρ p.2))=vs:=by
 intro l;induction l with
 | nil=>intro vs hv;simp[jF] at hv;simp[hv]
 | cons x l ih =>
  intro vs hv;obtain⟨i,x⟩:=x;simp only[jF] at hv;split at hv
  .rename_i v us J U;simp at hv;subst hv;simp[h x v J,ih us U]
  .cases hv
def JI.put{N:Nat}{env:Env}{a:Act}(h:JI N env a){Ξ:Nat}(hd:Ξ<N)(v:Value):JI N ((Ξ,v)::env) (a.put (some Ξ) v):=by
 refine⟨by simp[Act.put,h.size],?_⟩;intro t u ht;simp only[List.lookup_cons] at ht;by_cases r:t=Ξ
 .subst r;simp at ht;subst ht;simp[Act.put,h.size,hd]
 .have hb:(t == Ξ)=false:=by simpa using r
  simp only[hb] at ht;simp only[Act.put];rw[Array.getElem?_setIfInBounds_ne (Ne.symm r)];exact h.at_ t u ht
def J9(env r : Env):Prop:=∀t v,r.lookup t=some v->env.lookup t=some v
def JI.less{N:Nat}{env r : Env}{a:Act}(h:JI N env a)(hs:J9 env r):JI N r a:=⟨h.size,λt v x=>h.at_ t v (hs t v x)⟩
def J9.refl(env:Env):J9 env env:=λ_ _ h=>h
def J9.nil(env:Env):J9 env []:=λ_ _ h=>by cases h
def J9.cons{env r : Env}{Ξ:Nat}{v:Value}(h:env.lookup Ξ=some v)(hs:J9 env r):J9 env ((Ξ,v)::r):=by
 intro t u ht;simp only[List.lookup_cons] at ht;by_cases I:t=Ξ
 .subst I;simp at ht;subst ht;exact h
 .have hb:(t == Ξ)=false:=by simpa using I
  simp only[hb] at ht;exact hs t u ht
abbrev E1:=Exit->Env->LH->Prop
def FW(Θ:Option Nat):Fence:={ Fence.wide with round:=Θ }
def lu{Θ:Option Nat}{n:Nat}{P:Program}{f:FuncId}{args:Array Value}{w:World}{Α:Ending->World->Prop}(h:Calls P f args w Α):CallsIn (FW Θ) n P f args w Α :=
 (callsIn_wide (n:=n)).2 h
def Lj(ξ:List Nat):List Deferred:=ξ.map λF0=>{ target:=.collected F0,args:=#[] }
def C6(ξ:List Nat):LH:=ξ.map λF0=>h1 F0 (.deferred (some []))
def FN(Θ:Option Nat)(η:LH):Prop:=∀l,Θ=some l->∃r Y',η.Perm (h1 l (.loop r)::Y')
def At(N:Nat)(env:Env)(L:LH)(θ:Th)(η:LH)(a:Act)(w:World):Prop:=∃ξ,JI N env a/\a.defers=Lj ξ/\Sat θ (L++(C6 ξ++η)) w
def QK(θ:Th)(η:LH)(N:Nat)(Ν:E1):Exit->Act->World->Prop:=λe a w=>∃env L,At N env L θ η a w/\Ν e env L
def Δ(P:Program)(N:Nat)(c:Code)(env:Env)(L:LH)(Ν:E1):Prop :=
 ∀Θ θ η a w,FN Θ η->At N env L θ η a w->c.wpIn (FW Θ) 0 P (QK θ η N Ν) a w
def R(P:Program)(N:Nat)(r:Array Oper)(l:List Oper)(env:Env)(L:LH)(Ν:E1):Prop :=
 ∀Θ θ η a w,FN Θ η->At N env L θ η a w->wpListIn (FW Θ) 0 P r (QK θ η N Ν) l a w
def E1.seq(n:Env->LH->Prop)(Ν:E1):E1:=λe=>match e with
 | .normal=>n
 | e=>Ν e
def E1.inBlock(F:Nat)(Ν:E1):E1:=λe=>match e with
 | .exit id'=>if id' = F then Ν .normal else Ν (.exit id')
 | e=>Ν e
section rules
variable {P:Program}{N:Nat}{env:Env}{L:LH}{Ν:E1}
def At.less{θ:Th}{η:LH}{a:Act}{w:World}{r : Env}{Y : LH}(h:At N env L θ η a w)(he:J9 env r)(hl:A L Y):At N r Y θ η a w :=
 let ⟨ξ,ea,hd,s⟩:=h;⟨ξ,ea.less he,hd,hl θ _ w s⟩
def At.Oy{θ:Th}{η:LH}{a:Act}{w:World}(h:At N env L θ η a w):JI N env a:=let ⟨_,ea,_,_⟩:=h;ea
def At.KF{θ:Th}{η:LH}{a:Act}{w:World}(h:At N env L θ η a w):Lv env a.eval:=h.Oy.KF
def At.put{θ:Th}{η:LH}{a:Act}{w:World}(h:At N env L θ η a w){Ξ:Nat}(hd:Ξ<N)(v:Value):At N ((Ξ,v)::env) L θ η (a.put (some Ξ) v) w :=
 let ⟨ξ,ea,hm,s⟩:=h;⟨ξ,ea.put hd v,hm,s⟩
def Δ.LO{c:Code}{r : Env}{Y : LH}(h:Δ P N c r Y Ν)(he:J9 env r)(hl:A L Y):Δ P N c env L Ν :=
 λΘ θ η a w hr i=>h Θ θ η a w hr (i.less he hl)
def Δ.mono{c:Code}{K' : E1}(h:Δ P N c env L Ν)(hk:∀e env L,Ν e env L->K' e env L):Δ P N c env L K' :=
 λΘ θ η a w hr i=>wpIn_mono (h Θ θ η a w hr i) λ_ _ _ ⟨r,Y,x,z⟩=>⟨r,Y,x,hk _ _ _ z⟩
def At.open_{α:Type}{φ:α->Prop}{Y : α->LH}(h:∀θ Α w,Sat θ (L++Α) w->∃x,φ x/\Sat θ (Y x++Α) w){θ:Th}{η:LH}{a:Act}{w:World}(i:At N env L θ η a w):∃x,φ x/\At N env (Y x) θ η a w :=
 let ⟨ξ,ea,hm,s⟩:=i;let ⟨x,K,s'⟩:=h θ _ w s;⟨x,K,ξ,ea,hm,s'⟩
def Δ.open_{α:Type}{c:Code}{φ:α->Prop}{Y : α->LH}(h:∀θ Α w,Sat θ (L++Α) w->∃x,φ x/\Sat θ (Y x++Α) w)
  (k:∀x,φ x->Δ P N c env (Y x) Ν):Δ P N c env L Ν:=λΘ θ η a w hr i =>
 let ⟨x,K,i'⟩:=i.open_ h;k x K Θ θ η a w hr i'
def R.LO{I:Array Oper}{l:List Oper}{r : Env}{Y : LH}(h:R P N I l r Y Ν)(he:J9 env r)(hl:A L Y):R P N I l env L Ν :=
 λΘ θ η a w hr i=>h Θ θ η a w hr (i.less he hl)
def R.open_{α:Type}{r:Array Oper}{l:List Oper}{φ:α->Prop}{Y : α->LH}(h:∀θ Α w,Sat θ (L++Α) w->∃x,φ x/\Sat θ (Y x++Α) w)
  (k:∀x,φ x->R P N r l env (Y x) Ν):R P N r l env L Ν:=λΘ θ η a w hr i =>
 let ⟨x,K,i'⟩:=i.open_ h;k x K Θ θ η a w hr i'
def Δ.seq{x y:Code}(h:Δ P N x env L (Ν.seq λr Y=>Δ P N y r Y Ν)):Δ P N (.seq x y) env L Ν:=by
 intro Θ θ η a w hr i;refine wpIn_seq (wpIn_mono (h Θ θ η a w hr i) ?_);rintro e a' ab ⟨r,Y,i',hk⟩;cases e with
 | normal=>exact hk Θ θ η a' ab hr i'
 | exit F=>exact⟨r,Y,i',hk⟩
 | goto l=>exact⟨r,Y,i',hk⟩
 | ret=>exact⟨r,Y,i',hk⟩
 | panic ch=>exact⟨r,Y,i',hk⟩
 | outgrown=>exact⟨r,Y,i',hk⟩
def Δ.mid{x y:Code}(ξ:Env->LH->Prop)(h:Δ P N x env L (Ν.seq ξ))(h' : ∀r Y,ξ r Y->Δ P N y r Y Ν):Δ P N (.seq x y) env L Ν :=
 Δ.seq (h.mono λe env L hk=>by cases e<;>first|exact h' _ _ hk|exact hk)
def Δ.block{F:Nat}{c:Code}(h:Δ P N c env L (Ν.inBlock F)):Δ P N (.block F c) env L Ν:=by
 intro Θ θ η a w hr i;refine wpIn_block (wpIn_mono (h Θ θ η a w hr i) ?_);rintro e a' ab ⟨r,Y,i',hk⟩;cases e with
 | exit id' =>
  simp only[E1.inBlock] at hk;simp only[Exit.inBlock];split
  .rename_i he;rw[μ he] at hk;exact⟨r,Y,i',hk⟩
  .rename_i he;rw[Ω he] at hk;exact⟨r,Y,i',hk⟩
 | normal=>exact⟨r,Y,i',hk⟩
 | goto l=>exact⟨r,Y,i',hk⟩
 | ret=>exact⟨r,Y,i',hk⟩
 | panic ch=>exact⟨r,Y,i',hk⟩
 | outgrown=>exact⟨r,Y,i',hk⟩
def Δ.skip(h:Ν .normal env L):Δ P N .skip env L Ν:=λ_ _ _ _ _ _ i=>wpIn_skip ⟨env,L,i,h⟩
def Δ.ret(h:Ν .ret env L):Δ P N .ret env L Ν:=λ_ _ _ _ _ _ i=>wpIn_ret ⟨env,L,i,h⟩
def Δ.exit{F:Nat}(h:Ν (.exit F) env L):Δ P N (.exit F) env L Ν:=λ_ _ _ _ _ _ i=>wpIn_exit ⟨env,L,i,h⟩
def Δ.g8{c:Operand}{x y:Code}(hc:χ env c=some (.bool true))(h:Δ P N x env L Ν):Δ P N (.cond c x y) env L Ν :=
 λΘ θ η a w hr i=>wpIn_cond_true (aH i.KF hc) (h Θ θ η a w hr i)
def Δ.f9{c:Operand}{x y:Code}(hc:χ env c=some (.bool false))(h:Δ P N y env L Ν):Δ P N (.cond c x y) env L Ν :=
 λΘ θ η a w hr i=>wpIn_cond_false (aH i.KF hc) (h Θ θ η a w hr i)
def Δ.g9{c:Operand}{x y:Code}{b:Bool}(hc:χ env c=some (.bool b))(h:b=true->Δ P N x env L Ν)(h' : b=false->Δ P N y env L Ν):Δ P N (.cond c x y) env L Ν:=by
 cases b with
 | true=>exact Δ.g8 hc (h rfl)
 | false=>exact Δ.f9 hc (h' rfl)
def Δ.region{F:Nat}{l:List Oper}(h:R P N l.toArray l env L Ν):Δ P N (.region F l.toArray false) env L Ν :=
 λΘ θ η a w hr i=>wpIn_region_lit (h Θ θ η a w hr i)
def qP{Io:Fence}{n:Nat}{F8:Exit->Act->World->Prop}{a:Act}{w:World}{c:Code}(E5:Nat->Act->World->Prop)(n₀:Nat)(h₀:E5 n₀ a w)
  (round:∀m a w,E5 m a w->c.wpIn Io n P (Exit.then (λa' ab=>∃n',n' < m/\E5 n' a' ab) F8) a w):(Code.loop c).wpIn Io n P F8 a w:=by
 refine wpIn_loop (λa w=>∃n,E5 n a w) (λa w=>leastOf (λn=>E5 n a w)) ⟨n₀,h₀⟩ ?_;intro a w hI;refine wpIn_mono (round _ a w (leastOf_spec hI).1) ?_;intro e a' ab hq;cases e with
 | normal =>
  obtain⟨n',I,r⟩:=hq;exact show(∃n,E5 n a' ab)/\leastOf (λn=>E5 n a' ab)<leastOf (λn=>E5 n a w) from⟨⟨n',r⟩,Nat.lt_of_le_of_lt ((leastOf_spec ⟨n',r⟩).2 n' r) I⟩
 | exit F=>exact hq
 | goto l=>exact hq
 | ret=>exact hq
 | panic ch=>exact hq
 | outgrown=>exact hq
def Δ.loop{α:Type}{c:Code}(Inv:α->Prop)(e:α->Env)(l:α->LH)(m:α->Nat)(PL:α)(h₀:Inv PL)(he:J9 env (e PL))(hl:A L (l PL))
  (round:∀x,Inv x->Δ P N c (e x) (l x) (Ν.seq λr Y=>∃x',Inv x'/\m x' < m x/\J9 r (e x')/\A Y (l x'))):Δ P N (.loop c) env L Ν:=by
 intro Θ θ η a w hr i;refine qP (λn a w=>∃x,m x=n/\Inv x/\At N (e x) (l x) θ η a w) (m PL) ⟨PL,rfl,h₀,i.less he hl⟩ ?_;rintro n a w ⟨x,rfl,K,i⟩;refine wpIn_mono (round x K Θ θ η a w hr i) ?_;rintro ex a' ab ⟨r,Y,i',hk⟩;cases ex with
 | normal=>obtain⟨x',i1,i2,i3,i4⟩:=hk;exact⟨m x',i2,x',rfl,i1,i'.less i3 i4⟩
 | exit F=>exact⟨r,Y,i',hk⟩
 | goto l=>exact⟨r,Y,i',hk⟩
 | ret=>exact⟨r,Y,i',hk⟩
 | panic ch=>exact⟨r,Y,i',hk⟩
 | outgrown=>exact⟨r,Y,i',hk⟩
def R.nil{r:Array Oper}(h:Ν .normal env L):R P N r [] env L Ν:=λ_ _ _ _ _ _ i=>wpListIn_nil ⟨env,L,i,h⟩
def O(P:Program)(L:LH)(env:Env)(op:Op)(ty:TypeId)(v:Value):Prop :=
 ∀θ Α ρ w o,Lv env ρ->Sat θ (L++Α) w->o.op=op->o.type=ty->(execOp ρ o).run P w=.ok (.value v) w
def O.mk{op:Op}{ty:TypeId}{v:Value}(h:∀θ Α ρ w,Lv env ρ->Sat θ (L++Α) w->∀r pos af g,(execOp ρ ⟨r,op,ty,pos,af,g⟩).run P w=.ok (.value v) w):O P L env op ty v:=by
 rintro θ Α ρ w ⟨r,I,a2,pos,af,g⟩ ha s rfl rfl;exact h θ Α ρ w ha s r pos af g
def O.any{op:Op}{ty:TypeId}{v:Value}(h:O P [] env op ty v):O P L env op ty v :=
 λθ Α ρ w o ha s J U=>h θ (L++Α) ρ w o ha s J U
def Ef(P:Program)(L:LH)(env:Env)(op:Op)(ty:TypeId)(post:Value->LH->Prop):Prop :=
 ∀θ Α a w o next F8,Lv env a.eval->Sat θ (L++Α) w->o.op=op->o.type=ty->(∀v Y ab,post v Y->Sat θ (Y++Α) ab->next (a.put o.dst v) ab)->Oper.wp P o a w next F8
def Ef.val{op:Op}{ty:TypeId}{post:Value->LH->Prop}(h:∀θ Α ρ w,Lv env ρ->Sat θ (L++Α) w->∀r pos af g,∃v ab Y,(execOp ρ ⟨r,op,ty,pos,af,g⟩).run P w=.ok (.value v) ab/\post v Y/\Sat θ (Y++Α) ab):Ef P L env op ty post:=by
 rintro θ Α a w ⟨r,I,a2,pos,af,g⟩ next F8 ha s rfl rfl hn
 obtain⟨v,ab,Y,J,U,h3⟩:=h θ Α a.eval w ha s r pos af g;rw[Oper.wp,J,Oper.upon_value];exact hn v Y ab U h3
def Ef.skip{op:Op}{ty:TypeId}{post:Value->LH->Prop}(h:∀θ Α ρ w,Lv env ρ->Sat θ (L++Α) w->∀r pos af g,∃ab Y,(execOp ρ ⟨r,op,ty,pos,af,g⟩).run P w=.ok .skip ab/\post undef Y/\Sat θ (Y++Α) ab):Ef P L env op ty post:=by
 rintro θ Α a w ⟨r,I,a2,pos,af,g⟩ next F8 ha s rfl rfl hn
 obtain⟨ab,Y,J,U,h3⟩:=h θ Α a.eval w ha s r pos af g;rw[Oper.wp,J,Oper.upon_skip];exact hn undef Y ab U h3
def O.ef{op:Op}{ty:TypeId}{v:Value}(h:O P L env op ty v):Ef P L env op ty (λu Y=>u=v/\Y = L):=by
 intro θ Α a w o next F8 ha s J U hn
 rw[Oper.wp,h θ Α a.eval w o ha s J U,Oper.upon_value];exact hn v L w ⟨rfl,rfl⟩ s
def Oz(a:Act)(Ξ:Option Tmp)(v:Value):(a.put Ξ v).defers=a.defers:=by cases Ξ<;>rfl
def Ef.NL{op:Op}{ty:TypeId}{post:Value->LH->Prop}(he:Ef P L env op ty post){θ:Th}{Α:LH}{a:Act}{w:World}(ha:Lv env a.eval)(s:Sat θ (L++Α) w):∀c,op≠.defer c:=by
 rintro c rfl;have h := he θ Α a w ⟨none, .defer c, ty, "", #[], none⟩ (λa' _ => a'.defers = a.defers) (λ_ _ _ => False) ha s rfl rfl (λv Y ab _ _ => Oz _ _ _)
 unfold Oper.wp at h;simp only[execOp] at h;rw[Sem.run_bind] at h;cases hr:(resolve a.eval c ty).run P w with
 | ok Ξ ab =>
  rw[hr] at h;simp only[Result.andThen_ok,Sem.run_pure,Oper.upon,Act.put] at h;exact iW (congrArg List.length h) (by simp)
 | halt x ab =>
  rw[hr] at h;cases x<;>simp[Result.andThen,Oper.upon] at h
def kZ{Θ:Option Nat}{o:Oper}{a:Act}{w:World}{next:Act->World->Prop}{F8:Exit->Act->World->Prop}(hd:∀c,o.op≠.defer c)(h:o.wp P a w next F8):o.wpIn (FW Θ) 0 P a w next F8:=by
 refine⟨λ_ _=>trivial,?_⟩;rw[Oper.semAt_eq _ _ _ hd];unfold Oper.wp at h;generalize (execOp a.eval o).run P w=x at h;cases x with
 | ok y ab =>
  cases y<;>simp only[Oper.upon] at h<;>simp only[Oper.uponIn]
  all_goals first
   | exact h
   | exact h.elim
   | exact⟨(λh=>by cases h),lu (by exact h)⟩
   | exact⟨(λh=>by cases h),λc cs _=>(h c cs).imp λv hv=>hv.imp λr hw=>⟨hw.1,stepsIn_wide.2 hw.2⟩⟩
 | halt y ab=>cases y<;>simp only[Oper.upon] at h<;>simp only[Oper.uponIn]<;>first|exact h|exact h.elim
def R.ef{r:Array Oper}{ic:List Oper}{Ξ:Nat}{op:Op}{ty:TypeId}{pos:String}{af:Array Edge}{post:Value->LH->Prop}(he:Ef P L env op ty post)(hd:Ξ<N)
  (h:∀v Y,post v Y->R P N r ic ((Ξ,v)::env) Y Ν):R P N r (⟨some Ξ,op,ty,pos,af,none⟩::ic) env L Ν:=by
 intro Θ θ η a w hr i;refine wpListIn_plain rfl λK' hK=>?_;obtain⟨ξ,ea,hm,s⟩:=i;exact kZ (he.NL ea.KF s) (he θ _ a w _ K' _ ea.KF s rfl rfl λv Y ab hp s'=>hK _ _ (h v Y hp Θ θ η _ _ hr ⟨ξ,ea.put hd _,by rw[Oz];exact hm,s'⟩))
def R.I1{r:Array Oper}{ic:List Oper}{op:Op}{ty:TypeId}{pos:String}{af:Array Edge}{post:Value->LH->Prop}(he:Ef P L env op ty post)
  (h:∀v Y,post v Y->R P N r ic env Y Ν):R P N r (⟨none,op,ty,pos,af,none⟩::ic) env L Ν:=by
 intro Θ θ η a w hr i;refine wpListIn_plain rfl λK' hK=>?_;obtain⟨ξ,ea,hm,s⟩:=i;exact kZ (he.NL ea.KF s) (he θ _ a w _ K' _ ea.KF s rfl rfl λv Y ab hp s'=>hK _ _ (h v Y hp Θ θ η _ _ hr ⟨ξ,ea,hm,s'⟩))
def R.ev{r:Array Oper}{ic:List Oper}{Ξ:Nat}{op:Op}{ty:TypeId}{pos:String}{af:Array Edge}{v:Value}(he:O P L env op ty v)(hd:Ξ<N)
  (h:R P N r ic ((Ξ,v)::env) L Ν):R P N r (⟨some Ξ,op,ty,pos,af,none⟩::ic) env L Ν :=
 R.ef he.ef hd (by rintro _ _⟨rfl,rfl⟩;exact h)
def R.d9{r:Array Oper}{ic:List Oper}{I:Option Tmp}{op:Op}{ty:TypeId}{pos:String}{af:Array Edge}{j t:Nat}{b:Bool}
  (hj:(r[j]?).bind (·.dst)=some t) (ht:env.lookup t=some (.bool b))
  (h:R P N r (⟨I,op,ty,pos,af,none⟩::ic) env L Ν):R P N r (⟨I,op,ty,pos,af,some (j,b)⟩::ic) env L Ν:=by
 intro Θ θ η a w hr i;have J:=h Θ θ η a w hr i
 have Z:yielded r a.tmps j=some b:=by
  unfold yielded;rw[hj];simp[i.Oy.at_ t _ ht]
 simp only[wpListIn,Region.wanted,Z,beq_self_eq_true,if_true] at J ⊢;exact J
def R.f5{r:Array Oper}{ic:List Oper}{Ξ:Nat}{op:Op}{ty:TypeId}{pos:String}{af:Array Edge}{j t:Nat}{b c:Bool}
  (hj:(r[j]?).bind (·.dst)=some t) (ht:env.lookup t=some (.bool c)) (hb:(c == b)=false) (hd:Ξ<N)
  (h:R P N r ic ((Ξ,undef)::env) L Ν):R P N r (⟨some Ξ,op,ty,pos,af,some (j,b)⟩::ic) env L Ν:=by
 intro Θ θ η a w hr i;have J:=h Θ θ η (a.put (some Ξ) undef) w hr (i.put hd _)
 have Z:yielded r a.tmps j=some c:=by
  unfold yielded;rw[hj];simp[i.Oy.at_ t _ ht]
 have I:(some c == some b)=false:=by cases c<;>cases b<;>simp_all
 simp only[wpListIn,Region.wanted,Z,I] at J ⊢;exact⟨λ_ _=>trivial,J⟩
def R.c9{r:Array Oper}{ic:List Oper}{Ξ:Nat}{op:Op}{ty:TypeId}{pos:String}{af:Array Edge}{j t:Nat}{b:Bool}
  (hj:(r[j]?).bind (·.dst)=some t) (ht:env.lookup t=some undef) (hd:Ξ<N)
  (h:R P N r ic ((Ξ,undef)::env) L Ν):R P N r (⟨some Ξ,op,ty,pos,af,some (j,b)⟩::ic) env L Ν:=by
 intro Θ θ η a w hr i;have J:=h Θ θ η (a.put (some Ξ) undef) w hr (i.put hd _)
 have Z:yielded r a.tmps j=none:=by
  unfold yielded;rw[hj];simp[i.Oy.at_ t _ ht,undef]
 simp only[wpListIn,Region.wanted,Z] at J ⊢;exact⟨λ_ _=>trivial,J⟩
end rules
def Enters(P:Program)(f:FuncId):Prop:=∀args w,(callFunc f args).run P w=.ok (.enter f args) w
structure Λ (P:Program) (f:FuncId) (args:Array Value) (L:LH) (post:Value->LH->Prop):Prop where
 enters:Enters P f
 calls:∀θ Α w,Sat θ (L++Α) w->Calls P f args w λe ab=>∃v Y,e=.returned v/\post v Y/\Sat θ (Y++Α) ab
def Λ.mono{P:Program}{f:FuncId}{args:Array Value}{L:LH}{post r : Value->LH->Prop}(h:Λ P f args L post)(hp:∀v L,post v L->r v L):Λ P f args L r :=
 ⟨h.enters,λθ Α w s=>(h.calls θ Α w s).mono λ_ _ ⟨v,Y,a,b,c⟩=>⟨v,Y,a,hp _ _ b,c⟩⟩
def Λ.pre{P:Program}{f:FuncId}{args:Array Value}{L Y : LH}{post:Value->LH->Prop}(h:Λ P f args Y post)(hl:A L Y):Λ P f args L post :=
 ⟨h.enters,λθ Α w s=>h.calls θ Α w (hl θ Α w s)⟩
def Kr(args:LV)(k:Nat):Env:=match args with
 | []=>[]
 | v::Θ=>(k,v)::Kr Θ (k+1)
def qf(args:LV)(k t:Nat):(Kr args k).lookup t=if k<=t then args[t - k]? else none:=by
 induction args generalizing k with
 | nil=>simp[Kr]
 | cons v Θ ih =>
  simp only[Kr,List.lookup_cons];by_cases h:t=k
  .subst h;simp
  .have hb:(t == k)=false:=by simpa using h
   simp only[hb,ih];by_cases hk:k+1<=t
   .rw[μ hk,μ (by omega),show t - k=(t - (k+1))+1 by omega];simp
   .rw[Ω hk,Ω (by omega)]
def Pa(env:Env):List ResultVar->Option (LV)
 | []=>some []
 | .tmp t::Θ=>match env.lookup t,Pa env Θ with
  | some v,some vs=>some (v::vs)
  | _,_=>none
 | .cell _ _::_=>none
def KD:LV->Value
 | [v]=>v
 | vs=>.tuple vs.toArray
def Gi{P:Program}{N:Nat}{env:Env}{a:Act}(h:JI N env a)(w:World)(g:ResultVar->Sem Value)(hg:∀t,g (ResultVar.tmp t)=Sem.pure (a.tmps.getD t undef)) :
  ∀(rs:List ResultVar) (vs:LV),Pa env rs=some vs->(rs.mapM g).run P w=Result.ok vs w:=by
 intro rs;induction rs with
 | nil=>intro vs hv;simp[Pa] at hv;subst hv;simp
 | cons Θ rs ih =>
  intro vs hv;cases Θ with
  | cell x t=>simp[Pa] at hv
  | tmp t =>
   simp only[Pa] at hv;split at hv
   .rename_i v ws J U;simp at hv;subst hv;have h3:=h.at_ t v J;simp[List.mapM_cons,ih ws U,hg,h3]
   .cases hv
def B6(P:Program)(N:Nat)(env:Env)(L:LH)(rs:List ResultVar)(vs:LV):Prop :=
 ∀θ Α a w,JI N env a->Sat θ (L++Α) w->∀g:ResultVar->Sem Value,(∀t,g (ResultVar.tmp t)=Sem.pure (a.tmps.getD t undef))->(∀x t,g (ResultVar.cell x t)=(do loadVar t (<- asAddr (a.tmps.getD x undef))))->(rs.mapM g).run P w=Result.ok vs w
def B6.tmps{P:Program}{N:Nat}{env:Env}{L:LH}{rs:List ResultVar}{vs:LV}(h:Pa env rs=some vs):B6 P N env L rs vs:=λ_ _ _ w ea _ g hg _=>Gi ea w g hg rs vs h
def B6.nil{P:Program}{N:Nat}{env:Env}{L:LH}:B6 P N env L [] []:=B6.tmps rfl
def B6.tmp{P:Program}{N:Nat}{env:Env}{L:LH}{rs:List ResultVar}{vs:LV}{t:Nat}{v:Value}(h:env.lookup t=some v)(hr:B6 P N env L rs vs):B6 P N env L (.tmp t::rs) (v::vs):=by
 intro θ Α a w ea s g J U;have h3:=ea.at_ t v h;simp[List.mapM_cons,hr θ Α a w ea s g J U,J,h3]
def ri{P:Program}{N:Nat}{env:Env}{L Α:LH}{θ:Th}{a:Act}{fn:Func}(h:JI N env a){w:World}(s:Sat θ (L++Α) w){rs:List ResultVar}{vs:LV}(hf:fn.results=rs.toArray)(hv:B6 P N env L rs vs) :
  (results fn a.tmps).run P w=.ok (KD vs) w:=by
 unfold results;rw[hf];simp only[List.mapM_toArray,Sem.run_bind,Sem.run_map];rw[hv θ Α a w h s _ (λt=>rfl) (λx t=>rfl)];simp only[Result.andThen_ok,Sem.run_pure];congr 1;match vs with
 | []=>rfl
 | [v]=>rfl
 | v::u::Θ=>simp[KD]
def Ends(P:Program)(N:Nat)(rs:List ResultVar)(post:Value->LH->Prop):E1:=λe env L=>(e=.ret\/e=.normal)/\∀θ Α w,Sat θ (L++Α) w->∃vs Y,B6 P N env L rs vs/\Sat θ (Y++Α) w/\post (KD vs) Y
def oL{P:Program}{fn:Func}{tmps:Array Value}{Α:Ending->World->Prop}{θ:Th}{η:LH}:∀(ξ:List Nat) (w:World),Sat θ (C6 ξ++η) w->(∀ab,Sat θ η ab->LeavesIn Fence.wide 0 P fn tmps Α [] .returning ab)->LeavesInM Fence.wide 0 P fn tmps Α (Lj ξ) .returning w
 | [],w,s,h=>h w s
 | F0::ξ,w,s,h=>by
  have s0:Sat θ (h1 F0 (.deferred (some []))::(C6 ξ++η)) w:=s;have hb:=s0.IN;refine⟨by simp,.inl ⟨F0,{ w with heap:=w.heap.setIfInBounds F0 (.deferred none) },rfl,?_,?_⟩⟩
  .simp[Instr.takeDeferred,getObj,setObj,Sem.run,hb,bind,Sem.bind,pure]
  .have r:F0<w.heap.size:=(Array.getElem?_eq_some_iff.1 hb).1
   have s1:Sat θ (h1 F0 (.deferred none)::(C6 ξ++η)) { w with heap:=w.heap.setIfInBounds F0 (.deferred none) }:=by
    refine s0.update ⟨s.1.tape,s.1.os,s.1.output,s.1.drawn⟩ (by simp[r]) ?_;intro k x hk K;simp only[Array.getElem?_setIfInBounds];rw[Ω (λe=>hk e.symm)];exact K
   exact oL ξ _ s1.tail h
def Λ.body{P:Program}{f:FuncId}{fn:Func}{c:Code}{args:LV}{L:LH}{post:Value->LH->Prop}{rs:List ResultVar}(N:Nat)
  (he:Enters P f) (hf:P.funcs[f]? = some fn) (hb:fn.body=some c) (hr:fn.results=rs.toArray) (hN:fn.ntmps=N) (a9 : args.length<=N)
  (h:Δ P N c (Kr args 0) L (Ends P N rs post)):Λ P f args.toArray L post:=by
 refine⟨he,λθ Α w s=>(callsIn_wide (n:=0)).1 (callsIn_of_wp_marks hf hb trivial ?_)⟩
 have ea:JI N (Kr args 0) { tmps:=args.toArray++Array.replicate (fn.ntmps - args.toArray.size) undef,defers:=[] }:=by
  refine⟨by simp[hN];omega,?_⟩;intro t v ht;rw[qf] at ht;simp at ht;have a6:t<args.length:=(List.getElem?_eq_some_iff.1 ht).1;rw[Array.getElem?_append_left (by simpa using a6)];simpa using ht
 refine wpIn_mono (h none θ Α _ w (λl hl=>by cases hl) ⟨[],ea,rfl,s⟩) ?_;rintro e a' ab ⟨a5,Y,⟨ξ,a4,hm,s'⟩,hex,a2⟩
 have r:LeavesInM Fence.wide 0 P fn a'.tmps (λe ab=>∃v Y,e=.returned v/\post v Y/\Sat θ (Y++Α) ab) a'.defers .returning ab:=by
  rw[hm]
  have s1:Sat θ (C6 ξ++(Y++Α)) ab:=s'.perm (by
   rw[<-List.append_assoc,<-List.append_assoc];exact List.perm_append_comm.append_right Α)
  refine oL ξ ab s1 λw₂ s₂=>?_;obtain⟨vs,Mt,a7,a3,I⟩:=a2 θ Α w₂ s₂;exact⟨_,ri (P:=P) a4 s₂ hr a7,_,Mt,rfl,I,a3⟩
 rcases hex with rfl|rfl
 .exact r
 .exact r
def Ef.call{P:Program}{env:Env}{L R' : LH}{f:FuncId}{D:Array Operand}{ats:Array TypeId}{ty:TypeId}{vs:LV}{pre:LH}{post:Value->LH->Prop}
  (c:Λ P f vs.toArray pre post) (hv:eG env D.toList=some vs) (hL:A L (pre++R')) :
  Ef P L env (.call { callee:=.value (.func f),args:=D,argTypes:=ats }) ty (λv Y=>∃L₁,post v L₁/\Y = L₁++R'):=by
 rintro θ Α a w ⟨a2,a4,a3,pos,af,g⟩ next F8 ha s rfl rfl hn
 have r:D.map a.eval=vs.toArray:=by
  apply Array.ext';simpa using ha.list D.toList vs hv
 have I:(execOp a.eval ⟨a2,.call { callee:=.value (.func f),args:=D,argTypes:=ats },a3,pos,af,g⟩).run P w=.ok (.enter f vs.toArray) w:=by
  simp[execOp,resolve,Deferred.ofValue,Act.eval,invoke,r];exact c.enters _ _
 rw[Oper.wp,I,Oper.upon_enter];refine(c.calls θ (R'++Α) w (by rw[<-List.append_assoc];exact hL θ Α w s)).mono ?_;rintro e ab ⟨v,Y,rfl,hp,s'⟩;exact hn v _ ab ⟨Y,hp,rfl⟩ (by rw[List.append_assoc];exact s')
def dB(p:Prop)[Decidable p]:Bool:=decide p
theorem dd(p:Prop)[Decidable p]:dB p=decide p:=rfl
attribute [irreducible] dB
theorem bI{p:Prop}[Decidable p](h:p):dB p=true:=by rw[dd];exact decide_eq_true h
theorem bj{p:Prop}[Decidable p](h:¬p):dB p=false:=by rw[dd];exact decide_eq_false h
def CB(b:Bool)(p q:Prop):Prop:=(b=true->p)/\(b=false->q)
def CB.tt{p q:Prop}(h:p):CB true p q:=⟨λ_=>h,λh=>by cases h⟩
def CB.ff{p q:Prop}(h:q):CB false p q:=⟨λh=>(by cases h),λ_=>h⟩
def CB.dec{φ:Prop}[Decidable φ]{p q:Prop}(h:φ->p)(h' : ¬φ->q):CB (dB φ) p q:=⟨λe=>h (of_decide_eq_true (by rw[<-dd];exact e)),λe=>h' (of_decide_eq_false (by rw[<-dd];exact e))⟩
def CB.pos{φ:Prop}[Decidable φ]{p q:Prop}(hφ:φ)(h:p):CB (dB φ) p q:=CB.dec (λ_=>h) (λe=>iW hφ e)
def CB.neg{φ:Prop}[Decidable φ]{p q:Prop}(hφ:¬φ)(h:q):CB (dB φ) p q:=CB.dec (λe=>iW e hφ) (λ_=>h)
def CB.bool{b:Bool}{p q:Prop}(h:b=true->p)(h' : b=false->q):CB b p q:=⟨h,h'⟩
def GB(b:Bool)(p p' q q' : Prop):Prop:=(b=true->p\/p')/\(b=false->q\/q')
def GB.tt{p p' q q' : Prop}(h:p):GB true p p' q q':=⟨λ_=>.inl h,λh=>by cases h⟩
def GB.ff{p p' q q' : Prop}(h:q):GB false p p' q q':=⟨λh=>(by cases h),λ_=>.inl h⟩
def GB.dec{φ:Prop}[Decidable φ]{p p' q q' : Prop}(h:φ->p')(h' : ¬φ->q'):GB (dB φ) p p' q q':=⟨λe=>.inr (h (of_decide_eq_true (by rw[<-dd];exact e))),λe=>.inr (h' (of_decide_eq_false (by rw[<-dd];exact e)))⟩
def GB.pos{φ:Prop}[Decidable φ]{p p' q q' : Prop}(hφ:φ)(h:p'):GB (dB φ) p p' q q':=GB.dec (λ_=>h) (λe=>iW hφ e)
def GB.neg{φ:Prop}[Decidable φ]{p p' q q' : Prop}(hφ:¬φ)(h:q'):GB (dB φ) p p' q q':=GB.dec (λe=>iW e hφ) (λ_=>h)
def GB.bool{b:Bool}{p p' q q' : Prop}(h:b=true->p')(h' : b=false->q'):GB b p p' q q':=⟨λe=>.inr (h e),λe=>.inr (h' e)⟩
def Δ.cond{P:Program}{N:Nat}{env:Env}{L:LH}{Ν:E1}{c:Operand}{x y:Code}{b:Bool}(hc:χ env c=some (.bool b))(h:CB b (Δ P N x env L Ν) (Δ P N y env L Ν)):Δ P N (.cond c x y) env L Ν :=
 Δ.g9 hc h.1 h.2
def R.f8{P:Program}{N:Nat}{env:Env}{L:LH}{Ν:E1}{r:Array Oper}{ic:List Oper}{Ξ:Nat}{op:Op}{ty:TypeId}{pos:String}{af:Array Edge}{j t:Nat}{c:Bool}
  (hj:(r[j]?).bind (·.dst)=some t) (ht:env.lookup t=some (.bool c)) (hd:Ξ<N)
  (h:GB c (R P N r (⟨some Ξ,op,ty,pos,af,none⟩::ic) env L Ν) (R P N r (⟨some Ξ,op,ty,pos,af,none⟩::ic) ((t,.bool true)::env) L Ν) (R P N r ic ((Ξ,undef)::env) L Ν) (R P N r ic ((Ξ,undef)::(t,.bool false)::env) L Ν)) :
  R P N r (⟨some Ξ,op,ty,pos,af,some (j,true)⟩::ic) env L Ν:=by
 cases c with
 | true=>exact R.d9 hj ht ((h.1 rfl).elim id λh=>h.LO (J9.cons ht (J9.refl _)) (A.refl _))
 | false=>exact R.f5 hj ht rfl hd ((h.2 rfl).elim id λh=>h.LO (by
   intro u v hu;simp only[List.lookup_cons] at hu ⊢;split
   .rename_i e;simp only[e] at hu;exact hu
   .rename_i e;simp only[e] at hu;split at hu
    .rename_i e2;rw[beq_iff_eq] at e2;subst e2;rw[ht];exact hu
    .exact hu) (A.refl _))
def R.f9{P:Program}{N:Nat}{env:Env}{L:LH}{Ν:E1}{r:Array Oper}{ic:List Oper}{Ξ:Nat}{op:Op}{ty:TypeId}{pos:String}{af:Array Edge}{j t:Nat}{c:Bool}
  (hj:(r[j]?).bind (·.dst)=some t) (ht:env.lookup t=some (.bool c)) (hd:Ξ<N)
  (h:GB c (R P N r ic ((Ξ,undef)::env) L Ν) (R P N r ic ((Ξ,undef)::(t,.bool true)::env) L Ν) (R P N r (⟨some Ξ,op,ty,pos,af,none⟩::ic) env L Ν) (R P N r (⟨some Ξ,op,ty,pos,af,none⟩::ic) ((t,.bool false)::env) L Ν)) :
  R P N r (⟨some Ξ,op,ty,pos,af,some (j,false)⟩::ic) env L Ν:=by
 cases c with
 | false=>exact R.d9 hj ht ((h.2 rfl).elim id λh=>h.LO (J9.cons ht (J9.refl _)) (A.refl _))
 | true=>exact R.f5 hj ht rfl hd ((h.1 rfl).elim id λh=>h.LO (by
   intro u v hu;simp only[List.lookup_cons] at hu ⊢;split
   .rename_i e;simp only[e] at hu;exact hu
   .rename_i e;simp only[e] at hu;split at hu
    .rename_i e2;rw[beq_iff_eq] at e2;subst e2;rw[ht];exact hu
    .exact hu) (A.refl _))
section kx
variable {P:Program}{N:Nat}{env:Env}{L:LH}{Ν:E1}{n:Env->LH->Prop}
def KX.f5{F:Nat}(h:Ν (.exit F) env L):E1.seq n Ν (.exit F) env L:=h
def KX.g8(h:Ν .ret env L):E1.seq n Ν .ret env L:=h
def KX.d7(h:n env L):E1.seq n Ν .normal env L:=h
def KX.f8{y:Code}(h:Δ P N y env L Ν):E1.seq (λr Y=>Δ P N y r Y Ν) Ν .normal env L:=h
def KX.d8{F:Nat}(h:Ν .normal env L):E1.inBlock F Ν (.exit F) env L:=by simpa [E1.inBlock] using h
def KX.c9{F r : Nat}(I:r≠F)(h:Ν (.exit r) env L):E1.inBlock F Ν (.exit r) env L:=by simpa [E1.inBlock,I] using h
def KX.d9{F:Nat}(h:Ν .ret env L):E1.inBlock F Ν .ret env L:=h
def KX.c7{F:Nat}(h:Ν .normal env L):E1.inBlock F Ν .normal env L:=h
def KX.a8{rs:List ResultVar}{post:Value->LH->Prop}{vs:LV}{Y : LH}(J:B6 P N env L rs vs)(U:A L Y)(h3:post (KD vs) Y):Ends P N rs post .ret env L:=⟨.inl rfl,λθ Α w s=>⟨vs,Y,J,U θ Α w s,h3⟩⟩
def KX.c8{rs:List ResultVar}{post:Value->LH->Prop}{vs:LV}{Y : LH}(J:B6 P N env L rs vs)(U:A L Y)(h3:post (KD vs) Y):Ends P N rs post .normal env L:=⟨.inr rfl,λθ Α w s=>⟨vs,Y,J,U θ Α w s,h3⟩⟩
def KX.f9{rs:List ResultVar}{post:Value->LH->Prop}{e:Exit}{φ:Prop}(he:e=.ret\/e=.normal)(h:∀θ Α w,Sat θ (L++Α) w->φ)(k:φ->Ends P N rs post e env L):Ends P N rs post e env L:=⟨he,λθ Α w s=>(k (h θ Α w s)).2 θ Α w s⟩
def KX.υ{rs:List ResultVar}{post:Value->LH->Prop}{vs:LV}{Y : LH}(r:B6 P N env L rs vs)(I:A L Y)(h3:Ends P N rs post .ret env L):Ends P N rs post .ret env L:=h3
