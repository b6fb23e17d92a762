/- The logic of heaps: assertions about owned and immutable blocks, and judgements about code and operations. Holds for any program; no condition. -/
import Derived.WalkKit
import Derived.Orders
import Derived.Deep.LoopGhost
import Derived.OrdersIn
import Derived.TacticsIn
import Derived.RangeFuncLeaves
set_option linter.all false
namespace Go.V
theorem Ω.{u}{c:Prop}{h:Decidable c}(k:c){α:Sort u}{t e:α}:ite c t e=t:=if_pos k
theorem Ο.{u}{c:Prop}{h:Decidable c}(k:¬c){α:Sort u}{t e:α}:ite c t e=e:=if_neg k
def iJ.{u}{a:Prop}{b:Sort u}(h:a)(k:¬a):b:=absurd h k
theorem GO.{u}{α:Type u}{a b:α}(h:b∈[a]):b=a:=List.mem_singleton.1 h
theorem J4.{u}{α:Type u}{a:α}{s t:List α}(h:a∈s++t):a∈s\/a∈t:=List.mem_append.1 h
theorem H8.{u,v}{α:Type u}{β:Type v}{b:β}{f:α->β}{l:List α}(h:b∈l.map f):∃a,a∈l/\f a=b:=List.mem_map.1 h
theorem L7.{u}{α:Type u}{a b:α}{l:List α}(h:a∈b::l):a=b\/a∈l:=List.mem_cons.1 h
theorem O3.{u}{α:Type u}{a b:α}(h:some a=some b):a=b:=Option.some.inj h
abbrev χ:=List Value
abbrev OA:=Option Addr
abbrev Hp:=Nat->Option Obj
def Hp.sub(a b:Hp):Prop:=∀k o,a k=some o->b k=some o
def Hp.PY(a b:Hp):Prop:=∀k o,a k=some o->b k=none
def Hp.c8(a b:Hp):Hp:=λk=>(a k).or (b k)
def Hp.emp:Hp:=λ_=>none
theorem Hp.sub.refl(a:Hp):Hp.sub a a:=λ_ _ h=>h
def Hp.sub.trans{a b c:Hp}(h:Hp.sub a b)(k:Hp.sub b c):Hp.sub a c:=λi o x=>k i o (h i o x)
def Hp.PY.symm{a b:Hp}(h:Hp.PY a b):Hp.PY b a:=by
 intro k o hb;cases ha:a k with
 | none=>rfl
 | some x=>have:=h k x ha;rw[hb] at this;cases this
def Hp.PY.mono{a b a' b' : Hp}(h:Hp.PY a b)(ha:Hp.sub a' a)(hb:Hp.sub b' b):Hp.PY a' b':=by
 intro k o x;have I:=h k o (ha k o x);cases hk:b' k with
 | none=>rfl
 | some y=>have:=hb k y hk;rw[I] at this;cases this
theorem Hp.c7(a:Hp):Hp.PY Hp.emp a:=λ_ _ h=>by cases h
theorem Hp.a8(a:Hp):Hp.sub Hp.emp a:=λ_ _ h=>by cases h
def Hp.d7(a b:Hp):Hp.sub a (Hp.c8 a b):=λk o h=>by simp[Hp.c8,h]
def Hp.c9{a b:Hp}(h:Hp.PY a b):Hp.sub b (Hp.c8 a b):=λk o hk=>by
 have:=h.symm k o hk
 simp[Hp.c8,this,hk]
def Hp.d9{a b c:Hp}(h:Hp.sub a c)(h' : Hp.sub b c):Hp.sub (Hp.c8 a b) c:=by
 intro k o hk;unfold Hp.c8 at hk;cases ha:a k with
 | none=>rw[ha] at hk;exact h' k o (by simpa using hk)
 | some x=>rw[ha] at hk;simp at hk;subst hk;exact h k x ha
def Hp.d8{a b c:Hp}(h:Hp.PY a b)(h' : Hp.PY a c):Hp.PY a (Hp.c8 b c):=by
 intro k o hk;simp[Hp.c8,h k o hk,h' k o hk]
abbrev HP:=Hp->Hp->Prop
abbrev Ι:=List HP
def MS:Ι->Hp->Hp->Prop
 | [],_,_=>True
 | p::L,ι,h=>∃G6 E4 D5,Hp.sub G6 ι/\Hp.PY E4 D5/\Hp.sub E4 h/\Hp.sub D5 h/\p G6 E4/\MS L ι D5
def MS.mono{L:Ι}{ι ι' h h' : Hp}(hi:Hp.sub ι ι')(hh:Hp.sub h h')(s:MS L ι h):MS L ι' h':=by
 induction L generalizing h h' with
 | nil=>trivial
 | cons p L ih =>
  obtain⟨G6,E4,D5,a,b,c,Ξ,e,f⟩:=s;exact⟨G6,E4,D5,a.trans hi,b,c.trans hh,Ξ.trans hh,e,ih (Hp.sub.refl _) f⟩
def MS.swap{p q:HP}{L:Ι}{ι h:Hp}(s:MS (p::q::L) ι h):MS (q::p::L) ι h:=by
 obtain⟨RU,E4,D5,J,b1,c1,d1,e1,Vc,h₃,h₄,a2,b2,c2,d2,e2,f2⟩:=s;have A:Hp.PY E4 h₄:=b1.mono (Hp.sub.refl _) d2;refine⟨Vc,h₃,Hp.c8 E4 h₄,a2,Hp.d8 (b1.mono (Hp.sub.refl _) c2).symm b2,c2.trans d1,Hp.d9 c1 (d2.trans d1),e2,?_⟩;exact⟨RU,E4,h₄,J,A,Hp.d7 _ _,Hp.c9 A,e1,f2⟩
def MS.perm{L Ε : Ι}(hp:L.Perm Ε):∀{ι h:Hp},MS L ι h->MS Ε ι h:=by
 induction hp with
 | nil=>exact λs=>s
 | cons p _ ih=>exact λ⟨G6,E4,D5,a,b,c,Ξ,e,f⟩=>⟨G6,E4,D5,a,b,c,Ξ,e,ih f⟩
 | swap p q l=>exact λs=>s.swap
 | trans _ _ ih1 ih2=>exact λs=>ih2 (ih1 s)
def MS.split{Φ hx:Ι}{ι h:Hp}(s:MS (Φ++hx) ι h):∃E4 D5,Hp.PY E4 D5/\Hp.sub E4 h/\Hp.sub D5 h/\MS Φ ι E4/\MS hx ι D5:=by
 induction Φ generalizing h with
 | nil=>exact⟨Hp.emp,h,Hp.c7 _,Hp.a8 _,Hp.sub.refl _,trivial,s⟩
 | cons p Φ ih =>
  obtain⟨G6,x₁,x₂,a,b,c,Ξ,e,f⟩:=s;obtain⟨y₁,y₂,g1,g2,g3,g4,g5⟩:=ih f;have I:Hp.PY x₁ y₁:=b.mono (Hp.sub.refl _) g2;refine⟨Hp.c8 x₁ y₁,y₂,(Hp.d8 (b.mono (Hp.sub.refl _) g3).symm g1.symm).symm,Hp.d9 c (g2.trans Ξ),g3.trans Ξ,?_,g5⟩;exact⟨G6,x₁,y₁,a,I,Hp.d7 _ _,Hp.c9 I,e,g4⟩
theorem MS.a8{Φ hx:Ι}{ι h E4 D5:Hp}(hd:Hp.PY E4 D5)(s1:Hp.sub E4 h)(s2:Hp.sub D5 h)(a:MS Φ ι E4)(b:MS hx ι D5):MS (Φ++hx) ι h:=by
 induction Φ generalizing h E4 with
 | nil=>exact b.mono (Hp.sub.refl _) s2
 | cons p Φ ih =>
  obtain⟨G6,x₁,x₂,J,b1,c1,d1,e1,f1⟩:=a;have A:Hp.PY x₂ D5:=hd.mono d1 (Hp.sub.refl _);refine⟨G6,x₁,Hp.c8 x₂ D5,J,Hp.d8 b1 (hd.mono c1 (Hp.sub.refl _)),c1.trans s1,Hp.d9 (d1.trans s1) s2,e1,?_⟩;exact ih A (Hp.d7 _ _) (Hp.c9 A) f1
structure Th where
 tape:Nat->Question->Nat
 os:Os
 output:Array (Nat×ByteArray)
 lo:Nat
structure Th.ok (θ:Th) (w:World):Prop where
 tape:w.tape=θ.tape
 os:w.os=θ.os
 output:w.output=θ.output
 drawn:θ.lo<=w.drawn
def Hv{α:Type}:∀(m:Ask α) (w:World),w.drawn<=(w.ask m).2.drawn:=by
 intro m;induction m with
 | done a=>intro w;exact Nat.le_refl _
 | ask what range k ih =>
  intro w;simp only[World.ask];split
  .exact ih _ w
  .exact Nat.le_trans (Nat.le_succ _) (ih _ { w with drawn:=w.drawn+1 })
def tW{p:Program}{w dH : World}{at_:Addr}{u:TypeId}{k:Addr}{v:Value}{A:Bool}{l:List Addr}(h:w.viewStore p at_ u k v A=.ok (dH,l)):dH.drawn=w.drawn:=by
 simp only[World.viewStore,bind,Except.bind,pure,Except.pure,throw,throwThe,MonadExceptOf.throw] at h;repeat' (split at h)
 all_goals first|(simp only[Except.ok.injEq,Prod.mk.injEq] at h;obtain⟨rfl,_⟩:=h;rfl)|cases h
def lX{α:Type}{P:Program}:∀(m:Sem α) {w dH : World} {x:α},m.run P w=.ok x dH->w.drawn<=dH.drawn:=by
 intro m;induction m with
 | pure a=>intro w dH x h;simp only[Sem.run,Result.ok.injEq] at h;obtain⟨_,rfl⟩:=h;exact Nat.le_refl _
 | load m a k ih =>
  intro w dH x h;simp only[Sem.run] at h;split at h
  .exact ih _ h
  .split at h
   .exact ih _ h
   .cases h
 | store m a v k ih =>
  intro w dH x h
  have go:(match w.cell? a with
    | some _ => if w.frozen? a then .halt (.unsupported (.unsafePointer "a write to bytes that a string shares")) w else k.run P (w.setCell a v)
    | none=>match w.farStore P a v (m == .atomic) with
     | .ok (w,_)=>k.run P w
     | .error h=>.halt h w)=Result.ok x dH->w.drawn<=dH.drawn:=by
   intro h;split at h
   .split at h
    .cases h
    .exact ih (w:=w.setCell a v) h
   .split at h
    .rename_i Q;unfold World.farStore at Q;split at Q
     .split at Q
      .rename_i h3;cases Q;have:=tW h3
       have:=ih h
       omega
      .cases Q
     .cases Q
    .cases h
  cases v;all_goals first|exact go h|(simp only[Sem.run] at h;cases h)
 | new o k ih=>intro w dH x h;exact ih _ (w:={ w with heap:=w.heap.push o }) h
 | shape Δ k ih=>intro w dH x h;exact ih _ h
 | freeze a n k ih =>
  intro w dH x h;have I:=ih (w:=w.freeze a n) h;have Q:(w.freeze a n).drawn=w.drawn:=by unfold World.freeze;split<;>rfl
  omega
 | frozen a k ih=>intro w dH x h;exact ih _ h
 | getObj Δ k ih =>
  intro w dH x h;simp only[Sem.run] at h;split at h
  .cases h
  .exact ih _ h
  .cases h
 | setObj Δ o k ih =>
  intro w dH x h;simp only[Sem.run] at h;split at h
  .cases h
  .exact ih (w:={ w with heap:=w.heap.setIfInBounds Δ o }) h
  .cases h
 | choose q k ih =>
  intro w dH x h;simp only[Sem.run] at h;split at h
  .exact ih _ h
  .exact Nat.le_trans (Nat.le_succ _) (ih _ h)
 | sys c k ih =>
  intro w dH x h;simp only[Sem.run] at h;have I:=ih _ h;refine Nat.le_trans ?_ I;unfold World.sys;have Q:=Hv (Kernel.perform c w.os) w;split
  .exact Nat.le_refl _
  .rename_i heq;rw[heq] at Q;exact Q
 | program k ih=>intro w dH x h;exact ih _ h
 | mark m k ih=>intro w dH x h;exact ih h
 | halt h=>intro w dH x h;cases h
def ie(w:World):Hp:=λk=>w.heap[k]?
def Sat(θ:Th)(L:Ι)(w:World):Prop :=
 θ.ok w/\∃ι h,Hp.PY ι h/\Hp.sub ι (ie w)/\Hp.sub h (ie w)/\MS L ι h
def Sat.perm{θ:Th}{L Ε : Ι}{w:World}(s:Sat θ L w)(hp:L.Perm Ε):Sat θ Ε w :=
 let ⟨h0,ι,h,a,b,c,Ξ⟩:=s;⟨h0,ι,h,a,b,c,Ξ.perm hp⟩
def Sat.tail{θ:Th}{p:HP}{L:Ι}{w:World}(s:Sat θ (p::L) w):Sat θ L w :=
 let ⟨h0,ι,h,a,b,c,_,_,_,_,_,_,x,_,y⟩:=s;⟨h0,ι,h,a,b,c,y.mono (Hp.sub.refl _) x⟩
def Sat.keep{θ:Th}{L:Ι}{w dH : World}(s:Sat θ L w)(ok:θ.ok dH)(hk:∀(k:Nat) (o:Obj),w.heap[k]? = some o->dH.heap[k]? = some o):Sat θ L dH :=
 let ⟨_,ι,h,a,b,c,Ξ⟩:=s;⟨ok,ι,h,a,λk o x=>hk k o (b k o x),λk o x=>hk k o (c k o x),Ξ⟩
def Sat.drew{θ:Th}{L:Ι}{w:World}(s:Sat θ L w):Sat θ L { w with drawn:=w.drawn+1 } :=
 s.keep ⟨s.1.tape,s.1.os,s.1.output,Nat.le_succ_of_le s.1.drawn⟩ (λ_ _ h=>h)
def sh(b:Nat)(o:Obj):HP:=λ_ h=>h b=some o
def WU(b:Nat)(o:Obj):HP:=λι _=>ι b=some o
def ee(φ:Prop):HP:=λ_ _=>φ
def hex{α:Type}(f:α->HP):HP:=λι h=>∃x,f x ι h
def cw(L:Ι):HP:=λι h=>MS L ι h
def Sat.M8{θ:Th}{b:Nat}{o:Obj}{L:Ι}{w:World}(s:Sat θ (sh b o::L) w):w.heap[b]? = some o:=by
 obtain⟨_,ι,h,a,b1,c,G6,E4,D5,d1,d2,d3,d4,d5,d6⟩:=s;exact c b o (d3 b o d5)
def Sat.update{θ:Th}{b:Nat}{o o' : Obj}{L:Ι}{w dH : World}(s:Sat θ (sh b o::L) w)(ok:θ.ok dH)
  (hb:dH.heap[b]? = some o') (hk:∀(k:Nat) (x:Obj),k≠b->w.heap[k]? = some x->dH.heap[k]? = some x):Sat θ (sh b o'::L) dH:=by
 obtain⟨_,ι,h,a,b1,c,G6,E4,D5,d1,d2,d3,d4,d5,d6⟩:=s;have a3:h b=some o:=d3 b o d5;have a2:ι b=none:=a.symm b o a3;have J:D5 b=none:=d2 b o d5;refine⟨ok,ι,λk=>if k=b then some o' else D5 k,?_,?_,?_,G6,λk=>if k=b then some o' else none,D5,d1,?_,?_,?_,by simp[sh],d6⟩
 .intro k x M;by_cases A:k=b
  .subst A;rw[a2] at M;cases M
  .simp only[A,if_false];exact(a.mono (Hp.sub.refl _) d4) k x M
 .intro k x M;by_cases A:k=b
  .subst A;rw[a2] at M;cases M
  .exact hk k x A (b1 k x M)
 .intro k x M;by_cases A:k=b
  .subst A;simp at M;subst M;exact hb
  .simp only[A,if_false] at M;exact hk k x A (c k x (d4 k x M))
 .intro k x M;by_cases A:k=b
  .subst A;exact J
  .simp[A] at M
 .intro k x M;by_cases A:k=b
  .simpa [A] using M
  .simp[A] at M
 .intro k x M;by_cases A:k=b
  .subst A;rw[J] at M;cases M
  .simpa [A] using M
def Sat.fresh{θ:Th}{b:Nat}{o:Obj}{L:Ι}{w dH : World}(s:Sat θ L w)(ok:θ.ok dH)(hn:w.heap.size<=b)
  (hb:dH.heap[b]? = some o) (hk:∀(k:Nat) (x:Obj),w.heap[k]? = some x->dH.heap[k]? = some x):Sat θ (sh b o::L) dH:=by
 obtain⟨_,ι,h,a,b1,c,Ξ⟩:=s
 have J:∀g:Hp,Hp.sub g (ie w)->g b=none:=λg hg=>by
  cases M:g b with
  | none=>rfl
  | some x =>
   have I:w.heap[b]? = some x:=hg b x M;rw[Array.getElem?_eq_none hn] at I;cases I
 have hi:=J ι b1;have hh:=J h c;refine⟨ok,ι,λk=>if k=b then some o else h k,?_,λk x M=>hk k x (b1 k x M),?_,Hp.emp,λk=>if k=b then some o else none,h,Hp.a8 _,?_,?_,?_,by simp[sh],Ξ⟩
 .intro k x M;by_cases A:k=b
  .subst A;rw[hi] at M;cases M
  .simp only[A,if_false];exact a k x M
 .intro k x M;by_cases A:k=b
  .subst A;simp at M;subst M;exact hb
  .simp only[A,if_false] at M;exact hk k x (c k x M)
 .intro k x M;by_cases A:k=b
  .subst A;exact hh
  .simp[A] at M
 .intro k x M;by_cases A:k=b
  .simpa [A] using M
  .simp[A] at M
 .intro k x M;by_cases A:k=b
  .subst A;rw[hh] at M;cases M
  .simpa [A] using M
def Sat.alloc{θ:Th}{o:Obj}{L:Ι}{w:World}(s:Sat θ L w):Sat θ (sh w.heap.size o::L) (w.alloc o) :=
 s.fresh ⟨s.1.tape,s.1.os,s.1.output,s.1.drawn⟩ (Nat.le_refl _) (heap_alloc_new w o) (λk x M=>by
  rw[heap_alloc_old w o (Array.getElem?_eq_some_iff.1 M).1];exact M)
def Sat.freeze{θ:Th}{b:Nat}{o:Obj}{L:Ι}{w:World}(s:Sat θ (sh b o::L) w):Sat θ (WU b o::L) w:=by
 obtain⟨ok,ι,h,a,b1,c,G6,E4,D5,d1,d2,d3,d4,d5,d6⟩:=s;have J:D5 b=none:=d2 b o d5;refine⟨ok,λk=>if k=b then some o else ι k,D5,?_,?_,d4.trans c,λk=>if k=b then some o else none,Hp.emp,D5,?_,Hp.c7 _,Hp.a8 _,Hp.sub.refl _,by simp[WU],d6.mono ?_ (Hp.sub.refl _)⟩
 .intro k x M;by_cases A:k=b
  .subst A;exact J
  .simp only[A,if_false] at M;exact(a.mono (Hp.sub.refl _) d4) k x M
 .intro k x M;by_cases A:k=b
  .subst A;simp at M;subst M;exact c k o (d3 k o d5)
  .simp only[A,if_false] at M;exact b1 k x M
 .intro k x M;by_cases A:k=b
  .simpa [A] using M
  .simp[A] at M
 .intro k x M;by_cases A:k=b
  .subst A;have:=a k x M
   rw[d3 k o d5] at this;cases this
  .simpa [A] using M
def Sat.Td{θ:Th}{φ:Prop}{L:Ι}{w:World}(s:Sat θ (ee φ::L) w):φ:=by
 obtain⟨_,ι,h,a,b1,c,G6,E4,D5,d1,d2,d3,d4,d5,d6⟩:=s;exact d5
def Sat.UH{θ:Th}{φ:Prop}{L:Ι}{w:World}(s:Sat θ L w)(h:φ):Sat θ (ee φ::L) w:=by
 obtain⟨ok,ι,h',a,b1,c,Ξ⟩:=s;exact⟨ok,ι,h',a,b1,c,Hp.emp,Hp.emp,h',Hp.a8 _,Hp.c7 _,Hp.a8 _,Hp.sub.refl _,h,Ξ⟩
def Sat.Te{θ:Th}{α:Type}{f:α->HP}{L:Ι}{w:World}(s:Sat θ (hex f::L) w):∃x,Sat θ (f x::L) w:=by
 obtain⟨ok,ι,h,a,b1,c,G6,E4,D5,d1,d2,d3,d4,⟨x,d5⟩,d6⟩:=s;exact⟨x,ok,ι,h,a,b1,c,G6,E4,D5,d1,d2,d3,d4,d5,d6⟩
def Sat.d8{θ:Th}{α:Type}{f:α->HP}{L:Ι}{w:World}(x:α)(s:Sat θ (f x::L) w):Sat θ (hex f::L) w:=by
 obtain⟨ok,ι,h,a,b1,c,G6,E4,D5,d1,d2,d3,d4,d5,d6⟩:=s;exact⟨ok,ι,h,a,b1,c,G6,E4,D5,d1,d2,d3,d4,⟨x,d5⟩,d6⟩
def Sat.Qd{θ:Th}{Φ L:Ι}{w:World}(s:Sat θ (cw Φ::L) w):Sat θ (Φ++L) w:=by
 obtain⟨ok,ι,h,a,b1,c,G6,E4,D5,d1,d2,d3,d4,d5,d6⟩:=s;exact⟨ok,ι,h,a,b1,c,MS.a8 d2 d3 d4 (MS.mono d1 (Hp.sub.refl _) d5) d6⟩
theorem Sat.a8{θ:Th}{Φ L:Ι}{w:World}(s:Sat θ (Φ++L) w):Sat θ (cw Φ::L) w:=by
 obtain⟨ok,ι,h,a,b1,c,Ξ⟩:=s;obtain⟨E4,D5,g1,g2,g3,g4,g5⟩:=Ξ.split;exact⟨ok,ι,h,a,b1,c,ι,E4,D5,Hp.sub.refl _,g1,g2,g3,g4,g5⟩
def Vd(Φ:HP):Prop:=∀ι h,Φ ι h->Φ ι Hp.emp
def Sat.dup{θ:Th}{Φ:HP}(hA:Vd Φ){L:Ι}{w:World}(s:Sat θ (Φ::L) w):Sat θ (Φ::Φ::L) w:=by
 obtain⟨ok,ι,h,a,b1,c,G6,E4,D5,d1,d2,d3,d4,d5,d6⟩:=s;exact⟨ok,ι,h,a,b1,c,G6,Hp.emp,h,d1,Hp.c7 _,Hp.a8 _,Hp.sub.refl _,hA _ _ d5,G6,E4,D5,d1,d2,d3,d4,d5,d6⟩
def E(L Ε : Ι):Prop:=∀θ R w,Sat θ (L++R) w->Sat θ (Ε++R) w
theorem E.refl(L:Ι):E L L:=λ_ _ _ h=>h
def E.trans{Φ hx C:Ι}(h:E Φ hx)(k:E hx C):E Φ C:=λθ R w s=>k θ R w (h θ R w s)
def E.perm{L Ε : Ι}(h:L.Perm Ε):E L Ε:=λ_ R _ s=>s.perm (h.append_right R)
def E.drop{p:HP}{L:Ι}:E (p::L) L:=λ_ _ _ s=>s.tail
def E.cons{p:HP}{L Ε : Ι}(h:E L Ε):E (p::L) (p::Ε):=λθ R w s =>
 ((h θ (p::R) w ((show Sat θ (p::(L++R)) w from s).perm List.perm_middle.symm)).perm List.perm_middle)
def E.append{Φ hx C H7:Ι}(h:E Φ hx)(k:E C H7):E (Φ++C) (hx++H7):=by
 intro θ R w s;rw[List.append_assoc] at s ⊢;have s1:=h θ _ w s;have s2:Sat θ (C++(hx++R)) w:=s1.perm (by rw[<-List.append_assoc,<-List.append_assoc];exact List.perm_append_comm.append_right R);have s3:=k θ _ w s2;exact s3.perm (by rw[<-List.append_assoc,<-List.append_assoc];exact List.perm_append_comm.append_right R)
def E.nil(L:Ι):E L []:=by
 intro θ R w s;induction L with
 | nil=>exact s
 | cons p L ih=>exact ih s.tail
abbrev Env:=List (Nat×Value)
structure NY (N:Nat) (env:Env) (a:Act):Prop where
 size:a.tmps.size=N
 at_:∀t v,env.lookup t=some v->a.tmps[t]? = some v
def bG(env:Env):Operand->Option Value
 | .tmp t=>env.lookup t
 | .const v=>some v
 | .global g=>some (.pointer (some ⟨g,0,none⟩))
 | .func f=>some (.func (.func f) #[] #[])
def Qe(env:Env)(ρ:Operand->Value):Prop:=∀x v,bG env x=some v->ρ x=v
def aI{env:Env}{ρ:Operand->Value}(h:Qe env ρ){x:Operand}{v:Value}(M:bG env x=some v):ρ x=v:=h x v M
def NY.O4{N:Nat}{env:Env}{a:Act}(h:NY N env a):Qe env a.eval:=by
 intro x v M;cases x with
 | tmp t=>have:=h.at_ t v M;simp[Act.eval,this]
 | const c=>simpa [bG,Act.eval] using M
 | global g=>simpa [bG,Act.eval] using M
 | func f=>simpa [bG,Act.eval] using M
def fG(env:Env):List Operand->Option (χ)
 | []=>some []
 | x::Δ=>match bG env x,fG env Δ with
  | some v,some vs=>some (v::vs)
  | _,_=>none
def kM(env:Env):List (Nat×Operand)->Option (List (Nat×Value))
 | []=>some []
 | (i,x)::Δ=>match bG env x,kM env Δ with
  | some v,some vs=>some ((i,v)::vs)
  | _,_=>none
def Qe.list{env:Env}{ρ:Operand->Value}(h:Qe env ρ):∀(l:List Operand) (vs:χ),fG env l=some vs->l.map ρ=vs:=by
 intro l;induction l with
 | nil=>intro vs hv;simp[fG] at hv;simp[hv]
 | cons x l ih =>
  intro vs hv;simp only[fG] at hv;split at hv
  .rename_i v us I Q;simp at hv;subst hv;simp[h x v I,ih us Q]
  .cases hv
def Qe.pairs{env:Env}{ρ:Operand->Value}(h:Qe env ρ):∀(l:List (Nat×Operand)) (vs:List (Nat×Value)),kM env l=some vs->l.map (λp=>(p.1,ρ p.2))=vs:=by
 intro l;induction l with
 | nil=>intro vs hv;simp[kM] at hv;simp[hv]
 | cons x l ih =>
  intro vs hv;obtain⟨i,x⟩:=x;simp only[kM] at hv;split at hv
  .rename_i v us I Q;simp at hv;subst hv;simp[h x v I,ih us Q]
  .cases hv
theorem NY.put{N:Nat}{env:Env}{a:Act}(h:NY N env a){Ξ:Nat}(hd:Ξ<N)(v:Value):NY N ((Ξ,v)::env) (a.put (some Ξ) v):=by
 refine⟨by simp[Act.put,h.size],?_⟩;intro t u ht;simp only[List.lookup_cons] at ht;by_cases A:t=Ξ
 .subst A;simp at ht;subst ht;simp[Act.put,h.size,hd]
 .have hb:(t == Ξ)=false:=by simpa using A
  simp only[hb] at ht;simp only[Act.put];rw[Array.getElem?_setIfInBounds_ne (Ne.symm A)];exact h.at_ t u ht
def On(env A : Env):Prop:=∀t v,A.lookup t=some v->env.lookup t=some v
def NY.less{N:Nat}{env A : Env}{a:Act}(h:NY N env a)(hs:On env A):NY N A a:=⟨h.size,λt v x=>h.at_ t v (hs t v x)⟩
theorem On.refl(env:Env):On env env:=λ_ _ h=>h
def On.nil(env:Env):On env []:=λ_ _ h=>by cases h
def On.cons{env A : Env}{Ξ:Nat}{v:Value}(h:env.lookup Ξ=some v)(hs:On env A):On env ((Ξ,v)::A):=by
 intro t u ht;simp only[List.lookup_cons] at ht;by_cases J:t=Ξ
 .subst J;simp at ht;subst ht;exact h
 .have hb:(t == Ξ)=false:=by simpa using J
  simp only[hb] at ht;exact hs t u ht
abbrev F8:=Exit->Env->Ι->Prop
def FW(Δ:Option Nat):Fence:={ Fence.wide with round:=Δ }
def mO{Δ:Option Nat}{n:Nat}{P:Program}{f:FuncId}{args:Array Value}{w:World}{R:Ending->World->Prop}(h:Calls P f args w R):CallsIn (FW Δ) n P f args w R :=
 (callsIn_wide (n:=n)).2 h
def PZ(ο:List Nat):List Deferred:=ο.map λH7=>{ target:=.collected H7,args:=#[] }
def E5(ο:List Nat):Ι:=ο.map λH7=>sh H7 (.deferred (some []))
def JH(Δ:Option Nat)(aa:Ι):Prop:=∀l,Δ=some l->∃A Y',aa.Perm (sh l (.loop A)::Y')
def At(N:Nat)(env:Env)(L:Ι)(θ:Th)(aa:Ι)(a:Act)(w:World):Prop:=∃ο,NY N env a/\a.defers=PZ ο/\Sat θ (L++(E5 ο++aa)) w
def QK(θ:Th)(aa:Ι)(N:Nat)(Ρ:F8):Exit->Act->World->Prop:=λe a w=>∃env L,At N env L θ aa a w/\Ρ e env L
def Β(P:Program)(N:Nat)(c:Code)(env:Env)(L:Ι)(Ρ:F8):Prop :=
 ∀Δ θ aa a w,JH Δ aa->At N env L θ aa a w->c.wpIn (FW Δ) 0 P (QK θ aa N Ρ) a w
def Y(P:Program)(N:Nat)(A:Array Oper)(l:List Oper)(env:Env)(L:Ι)(Ρ:F8):Prop :=
 ∀Δ θ aa a w,JH Δ aa->At N env L θ aa a w->wpListIn (FW Δ) 0 P A (QK θ aa N Ρ) l a w
def F8.seq(n:Env->Ι->Prop)(Ρ:F8):F8:=λe=>match e with
 | .normal=>n
 | e=>Ρ e
def F8.inBlock(r:Nat)(Ρ:F8):F8:=λe=>match e with
 | .exit id'=>if id' = r then Ρ .normal else Ρ (.exit id')
 | e=>Ρ e
section rules
variable {P:Program}{N:Nat}{env:Env}{L:Ι}{Ρ:F8}
def At.less{θ:Th}{aa:Ι}{a:Act}{w:World}{A : Env}{Ε : Ι}(h:At N env L θ aa a w)(he:On env A)(T:E L Ε):At N A Ε θ aa a w :=
 let ⟨ο,ea,hd,s⟩:=h;⟨ο,ea.less he,hd,T θ _ w s⟩
def At.TB{θ:Th}{aa:Ι}{a:Act}{w:World}(h:At N env L θ aa a w):NY N env a:=let ⟨_,ea,_,_⟩:=h;ea
def At.O4{θ:Th}{aa:Ι}{a:Act}{w:World}(h:At N env L θ aa a w):Qe env a.eval:=h.TB.O4
theorem At.put{θ:Th}{aa:Ι}{a:Act}{w:World}(h:At N env L θ aa a w){Ξ:Nat}(hd:Ξ<N)(v:Value):At N ((Ξ,v)::env) L θ aa (a.put (some Ξ) v) w :=
 let ⟨ο,ea,hm,s⟩:=h;⟨ο,ea.put hd v,hm,s⟩
def Β.Q2{c:Code}{A : Env}{Ε : Ι}(h:Β P N c A Ε Ρ)(he:On env A)(T:E L Ε):Β P N c env L Ρ :=
 λΔ θ aa a w hr i=>h Δ θ aa a w hr (i.less he T)
def Β.mono{c:Code}{K' : F8}(h:Β P N c env L Ρ)(hk:∀e env L,Ρ e env L->K' e env L):Β P N c env L K' :=
 λΔ θ aa a w hr i=>wpIn_mono (h Δ θ aa a w hr i) λ_ _ _ ⟨A,Ε,x,z⟩=>⟨A,Ε,x,hk _ _ _ z⟩
def At.open_{α:Type}{φ:α->Prop}{Ε : α->Ι}(h:∀θ R w,Sat θ (L++R) w->∃x,φ x/\Sat θ (Ε x++R) w){θ:Th}{aa:Ι}{a:Act}{w:World}(i:At N env L θ aa a w):∃x,φ x/\At N env (Ε x) θ aa a w :=
 let ⟨ο,ea,hm,s⟩:=i;let ⟨x,M,s'⟩:=h θ _ w s;⟨x,M,ο,ea,hm,s'⟩
def Β.open_{α:Type}{c:Code}{φ:α->Prop}{Ε : α->Ι}(h:∀θ R w,Sat θ (L++R) w->∃x,φ x/\Sat θ (Ε x++R) w)
  (k:∀x,φ x->Β P N c env (Ε x) Ρ):Β P N c env L Ρ:=λΔ θ aa a w hr i =>
 let ⟨x,M,i'⟩:=i.open_ h;k x M Δ θ aa a w hr i'
def Y.Q2{J:Array Oper}{l:List Oper}{A : Env}{Ε : Ι}(h:Y P N J l A Ε Ρ)(he:On env A)(T:E L Ε):Y P N J l env L Ρ :=
 λΔ θ aa a w hr i=>h Δ θ aa a w hr (i.less he T)
def Y.open_{α:Type}{A:Array Oper}{l:List Oper}{φ:α->Prop}{Ε : α->Ι}(h:∀θ R w,Sat θ (L++R) w->∃x,φ x/\Sat θ (Ε x++R) w)
  (k:∀x,φ x->Y P N A l env (Ε x) Ρ):Y P N A l env L Ρ:=λΔ θ aa a w hr i =>
 let ⟨x,M,i'⟩:=i.open_ h;k x M Δ θ aa a w hr i'
def Β.seq{x y:Code}(h:Β P N x env L (Ρ.seq λA Ε=>Β P N y A Ε Ρ)):Β P N (.seq x y) env L Ρ:=by
 intro Δ θ aa a w hr i;refine wpIn_seq (wpIn_mono (h Δ θ aa a w hr i) ?_);rintro e a' dH ⟨A,Ε,i',hk⟩;cases e with
 | normal=>exact hk Δ θ aa a' dH hr i'
 | exit r=>exact⟨A,Ε,i',hk⟩
 | goto l=>exact⟨A,Ε,i',hk⟩
 | ret=>exact⟨A,Ε,i',hk⟩
 | panic ch=>exact⟨A,Ε,i',hk⟩
 | outgrown=>exact⟨A,Ε,i',hk⟩
def Β.mid{x y:Code}(ο:Env->Ι->Prop)(h:Β P N x env L (Ρ.seq ο))(h' : ∀A Ε,ο A Ε->Β P N y A Ε Ρ):Β P N (.seq x y) env L Ρ :=
 Β.seq (h.mono λe env L hk=>by cases e<;>first|exact h' _ _ hk|exact hk)
def Β.block{r:Nat}{c:Code}(h:Β P N c env L (Ρ.inBlock r)):Β P N (.block r c) env L Ρ:=by
 intro Δ θ aa a w hr i;refine wpIn_block (wpIn_mono (h Δ θ aa a w hr i) ?_);rintro e a' dH ⟨A,Ε,i',hk⟩;cases e with
 | exit id' =>
  simp only[F8.inBlock] at hk;simp only[Exit.inBlock];split
  .rename_i he;rw[Ω he] at hk;exact⟨A,Ε,i',hk⟩
  .rename_i he;rw[Ο he] at hk;exact⟨A,Ε,i',hk⟩
 | normal=>exact⟨A,Ε,i',hk⟩
 | goto l=>exact⟨A,Ε,i',hk⟩
 | ret=>exact⟨A,Ε,i',hk⟩
 | panic ch=>exact⟨A,Ε,i',hk⟩
 | outgrown=>exact⟨A,Ε,i',hk⟩
def Β.skip(h:Ρ .normal env L):Β P N .skip env L Ρ:=λ_ _ _ _ _ _ i=>wpIn_skip ⟨env,L,i,h⟩
def Β.ret(h:Ρ .ret env L):Β P N .ret env L Ρ:=λ_ _ _ _ _ _ i=>wpIn_ret ⟨env,L,i,h⟩
def Β.exit{r:Nat}(h:Ρ (.exit r) env L):Β P N (.exit r) env L Ρ:=λ_ _ _ _ _ _ i=>wpIn_exit ⟨env,L,i,h⟩
def Β.g8{c:Operand}{x y:Code}(hc:bG env c=some (.bool true))(h:Β P N x env L Ρ):Β P N (.cond c x y) env L Ρ :=
 λΔ θ aa a w hr i=>wpIn_cond_true (aI i.O4 hc) (h Δ θ aa a w hr i)
def Β.f9{c:Operand}{x y:Code}(hc:bG env c=some (.bool false))(h:Β P N y env L Ρ):Β P N (.cond c x y) env L Ρ :=
 λΔ θ aa a w hr i=>wpIn_cond_false (aI i.O4 hc) (h Δ θ aa a w hr i)
def Β.g9{c:Operand}{x y:Code}{b:Bool}(hc:bG env c=some (.bool b))(h:b=true->Β P N x env L Ρ)(h' : b=false->Β P N y env L Ρ):Β P N (.cond c x y) env L Ρ:=by
 cases b with
 | true=>exact Β.g8 hc (h rfl)
 | false=>exact Β.f9 hc (h' rfl)
def Β.region{r:Nat}{l:List Oper}(h:Y P N l.toArray l env L Ρ):Β P N (.region r l.toArray false) env L Ρ :=
 λΔ θ aa a w hr i=>wpIn_region_lit (h Δ θ aa a w hr i)
def tJ{lp:Fence}{n:Nat}{F9:Exit->Act->World->Prop}{a:Act}{w:World}{c:Code}(G3:Nat->Act->World->Prop)(n₀:Nat)(h₀:G3 n₀ a w)
  (round:∀m a w,G3 m a w->c.wpIn lp n P (Exit.then (λa' dH=>∃n',n' < m/\G3 n' a' dH) F9) a w):(Code.loop c).wpIn lp n P F9 a w:=by
 refine wpIn_loop (λa w=>∃n,G3 n a w) (λa w=>leastOf (λn=>G3 n a w)) ⟨n₀,h₀⟩ ?_;intro a w hI;refine wpIn_mono (round _ a w (leastOf_spec hI).1) ?_;intro e a' dH hq;cases e with
 | normal =>
  obtain⟨n',J,A⟩:=hq;exact show(∃n,G3 n a' dH)/\leastOf (λn=>G3 n a' dH)<leastOf (λn=>G3 n a w) from⟨⟨n',A⟩,Nat.lt_of_le_of_lt ((leastOf_spec ⟨n',A⟩).2 n' A) J⟩
 | exit r=>exact hq
 | goto l=>exact hq
 | ret=>exact hq
 | panic ch=>exact hq
 | outgrown=>exact hq
def Β.loop{α:Type}{c:Code}(Inv:α->Prop)(e:α->Env)(l:α->Ι)(m:α->Nat)(UI:α)(h₀:Inv UI)(he:On env (e UI))(T:E L (l UI))
  (round:∀x,Inv x->Β P N c (e x) (l x) (Ρ.seq λA Ε=>∃x',Inv x'/\m x' < m x/\On A (e x')/\E Ε (l x'))):Β P N (.loop c) env L Ρ:=by
 intro Δ θ aa a w hr i;refine tJ (λn a w=>∃x,m x=n/\Inv x/\At N (e x) (l x) θ aa a w) (m UI) ⟨UI,rfl,h₀,i.less he T⟩ ?_;rintro n a w ⟨x,rfl,M,i⟩;refine wpIn_mono (round x M Δ θ aa a w hr i) ?_;rintro ex a' dH ⟨A,Ε,i',hk⟩;cases ex with
 | normal=>obtain⟨x',i1,i2,i3,i4⟩:=hk;exact⟨m x',i2,x',rfl,i1,i'.less i3 i4⟩
 | exit r=>exact⟨A,Ε,i',hk⟩
 | goto l=>exact⟨A,Ε,i',hk⟩
 | ret=>exact⟨A,Ε,i',hk⟩
 | panic ch=>exact⟨A,Ε,i',hk⟩
 | outgrown=>exact⟨A,Ε,i',hk⟩
def Y.nil{A:Array Oper}(h:Ρ .normal env L):Y P N A [] env L Ρ:=λ_ _ _ _ _ _ i=>wpListIn_nil ⟨env,L,i,h⟩
def Z(P:Program)(L:Ι)(env:Env)(op:Op)(ty:TypeId)(v:Value):Prop :=
 ∀θ R ρ w o,Qe env ρ->Sat θ (L++R) w->o.op=op->o.type=ty->(execOp ρ o).run P w=.ok (.value v) w
def Z.mk{op:Op}{ty:TypeId}{v:Value}(h:∀θ R ρ w,Qe env ρ->Sat θ (L++R) w->∀A pos af g,(execOp ρ ⟨A,op,ty,pos,af,g⟩).run P w=.ok (.value v) w):Z P L env op ty v:=by
 rintro θ R ρ w ⟨A,J,a2,pos,af,g⟩ ha s rfl rfl;exact h θ R ρ w ha s A pos af g
def Z.any{op:Op}{ty:TypeId}{v:Value}(h:Z P [] env op ty v):Z P L env op ty v :=
 λθ R ρ w o ha s I Q=>h θ (L++R) ρ w o ha s I Q
def Ef(P:Program)(L:Ι)(env:Env)(op:Op)(ty:TypeId)(post:Value->Ι->Prop):Prop :=
 ∀θ R a w o next F9,Qe env a.eval->Sat θ (L++R) w->o.op=op->o.type=ty->(∀v Ε dH,post v Ε->Sat θ (Ε++R) dH->next (a.put o.dst v) dH)->Oper.wp P o a w next F9
def Ef.val{op:Op}{ty:TypeId}{post:Value->Ι->Prop}(h:∀θ R ρ w,Qe env ρ->Sat θ (L++R) w->∀A pos af g,∃v dH Ε,(execOp ρ ⟨A,op,ty,pos,af,g⟩).run P w=.ok (.value v) dH/\post v Ε/\Sat θ (Ε++R) dH):Ef P L env op ty post:=by
 rintro θ R a w ⟨A,J,a2,pos,af,g⟩ next F9 ha s rfl rfl hn
 obtain⟨v,dH,Ε,I,Q,h3⟩:=h θ R a.eval w ha s A pos af g;rw[Oper.wp,I,Oper.upon_value];exact hn v Ε dH Q h3
def Ef.skip{op:Op}{ty:TypeId}{post:Value->Ι->Prop}(h:∀θ R ρ w,Qe env ρ->Sat θ (L++R) w->∀A pos af g,∃dH Ε,(execOp ρ ⟨A,op,ty,pos,af,g⟩).run P w=.ok .skip dH/\post undef Ε/\Sat θ (Ε++R) dH):Ef P L env op ty post:=by
 rintro θ R a w ⟨A,J,a2,pos,af,g⟩ next F9 ha s rfl rfl hn
 obtain⟨dH,Ε,I,Q,h3⟩:=h θ R a.eval w ha s A pos af g;rw[Oper.wp,I,Oper.upon_skip];exact hn undef Ε dH Q h3
def Z.ef{op:Op}{ty:TypeId}{v:Value}(h:Z P L env op ty v):Ef P L env op ty (λu Ε=>u=v/\Ε = L):=by
 intro θ R a w o next F9 ha s I Q hn
 rw[Oper.wp,h θ R a.eval w o ha s I Q,Oper.upon_value];exact hn v L w ⟨rfl,rfl⟩ s
def TC(a:Act)(Ξ:Option Tmp)(v:Value):(a.put Ξ v).defers=a.defers:=by cases Ξ<;>rfl
def Ef.SI{op:Op}{ty:TypeId}{post:Value->Ι->Prop}(he:Ef P L env op ty post){θ:Th}{R:Ι}{a:Act}{w:World}(ha:Qe env a.eval)(s:Sat θ (L++R) w):∀c,op≠.defer c:=by
 rintro c rfl;have h := he θ R a w ⟨none, .defer c, ty, "", #[], none⟩ (λa' _ => a'.defers = a.defers) (λ_ _ _ => False) ha s rfl rfl (λv Ε dH _ _ => TC _ _ _)
 unfold Oper.wp at h;simp only[execOp] at h;rw[Sem.run_bind] at h;cases hr:(resolve a.eval c ty).run P w with
 | ok Ξ dH =>
  rw[hr] at h;simp only[Result.andThen_ok,Sem.run_pure,Oper.upon,Act.put] at h;exact iJ (congrArg List.length h) (by simp)
 | halt x dH =>
  rw[hr] at h;cases x<;>simp[Result.andThen,Oper.upon] at h
def mq{Δ:Option Nat}{o:Oper}{a:Act}{w:World}{next:Act->World->Prop}{F9:Exit->Act->World->Prop}(hd:∀c,o.op≠.defer c)(h:o.wp P a w next F9):o.wpIn (FW Δ) 0 P a w next F9:=by
 refine⟨λ_ _=>trivial,?_⟩;rw[Oper.semAt_eq _ _ _ hd];unfold Oper.wp at h;generalize (execOp a.eval o).run P w=x at h;cases x with
 | ok y dH =>
  cases y<;>simp only[Oper.upon] at h<;>simp only[Oper.uponIn]
  all_goals first
   | exact h
   | exact h.elim
   | exact⟨(λh=>by cases h),mO (by exact h)⟩
   | exact⟨(λh=>by cases h),λc cs _=>(h c cs).imp λv hv=>hv.imp λA hw=>⟨hw.1,stepsIn_wide.2 hw.2⟩⟩
 | halt y dH=>cases y<;>simp only[Oper.upon] at h<;>simp only[Oper.uponIn]<;>first|exact h|exact h.elim
def Y.ef{A:Array Oper}{cR:List Oper}{Ξ:Nat}{op:Op}{ty:TypeId}{pos:String}{af:Array Edge}{post:Value->Ι->Prop}(he:Ef P L env op ty post)(hd:Ξ<N)
  (h:∀v Ε,post v Ε->Y P N A cR ((Ξ,v)::env) Ε Ρ):Y P N A (⟨some Ξ,op,ty,pos,af,none⟩::cR) env L Ρ:=by
 intro Δ θ aa a w hr i;refine wpListIn_plain rfl λK' hK=>?_;obtain⟨ο,ea,hm,s⟩:=i;exact mq (he.SI ea.O4 s) (he θ _ a w _ K' _ ea.O4 s rfl rfl λv Ε dH hp s'=>hK _ _ (h v Ε hp Δ θ aa _ _ hr ⟨ο,ea.put hd _,by rw[TC];exact hm,s'⟩))
def Y.No{A:Array Oper}{cR:List Oper}{op:Op}{ty:TypeId}{pos:String}{af:Array Edge}{post:Value->Ι->Prop}(he:Ef P L env op ty post)
  (h:∀v Ε,post v Ε->Y P N A cR env Ε Ρ):Y P N A (⟨none,op,ty,pos,af,none⟩::cR) env L Ρ:=by
 intro Δ θ aa a w hr i;refine wpListIn_plain rfl λK' hK=>?_;obtain⟨ο,ea,hm,s⟩:=i;exact mq (he.SI ea.O4 s) (he θ _ a w _ K' _ ea.O4 s rfl rfl λv Ε dH hp s'=>hK _ _ (h v Ε hp Δ θ aa _ _ hr ⟨ο,ea,hm,s'⟩))
def Y.ev{A:Array Oper}{cR:List Oper}{Ξ:Nat}{op:Op}{ty:TypeId}{pos:String}{af:Array Edge}{v:Value}(he:Z P L env op ty v)(hd:Ξ<N)
  (h:Y P N A cR ((Ξ,v)::env) L Ρ):Y P N A (⟨some Ξ,op,ty,pos,af,none⟩::cR) env L Ρ :=
 Y.ef he.ef hd (by rintro _ _⟨rfl,rfl⟩;exact h)
def Y.d9{A:Array Oper}{cR:List Oper}{J:Option Tmp}{op:Op}{ty:TypeId}{pos:String}{af:Array Edge}{j t:Nat}{b:Bool}
  (hj:(A[j]?).bind (·.dst)=some t) (ht:env.lookup t=some (.bool b))
  (h:Y P N A (⟨J,op,ty,pos,af,none⟩::cR) env L Ρ):Y P N A (⟨J,op,ty,pos,af,some (j,b)⟩::cR) env L Ρ:=by
 intro Δ θ aa a w hr i;have I:=h Δ θ aa a w hr i
 have U:yielded A a.tmps j=some b:=by
  unfold yielded;rw[hj];simp[i.TB.at_ t _ ht]
 simp only[wpListIn,Region.wanted,U,beq_self_eq_true,if_true] at I ⊢;exact I
def Y.f7{A:Array Oper}{cR:List Oper}{Ξ:Nat}{op:Op}{ty:TypeId}{pos:String}{af:Array Edge}{j t:Nat}{b c:Bool}
  (hj:(A[j]?).bind (·.dst)=some t) (ht:env.lookup t=some (.bool c)) (hb:(c == b)=false) (hd:Ξ<N)
  (h:Y P N A cR ((Ξ,undef)::env) L Ρ):Y P N A (⟨some Ξ,op,ty,pos,af,some (j,b)⟩::cR) env L Ρ:=by
 intro Δ θ aa a w hr i;have I:=h Δ θ aa (a.put (some Ξ) undef) w hr (i.put hd _)
 have U:yielded A a.tmps j=some c:=by
  unfold yielded;rw[hj];simp[i.TB.at_ t _ ht]
 have J:(some c == some b)=false:=by cases c<;>cases b<;>simp_all
 simp only[wpListIn,Region.wanted,U,J] at I ⊢;exact⟨λ_ _=>trivial,I⟩
def Y.c9{A:Array Oper}{cR:List Oper}{Ξ:Nat}{op:Op}{ty:TypeId}{pos:String}{af:Array Edge}{j t:Nat}{b:Bool}
  (hj:(A[j]?).bind (·.dst)=some t) (ht:env.lookup t=some undef) (hd:Ξ<N)
  (h:Y P N A cR ((Ξ,undef)::env) L Ρ):Y P N A (⟨some Ξ,op,ty,pos,af,some (j,b)⟩::cR) env L Ρ:=by
 intro Δ θ aa a w hr i;have I:=h Δ θ aa (a.put (some Ξ) undef) w hr (i.put hd _)
 have U:yielded A a.tmps j=none:=by
  unfold yielded;rw[hj];simp[i.TB.at_ t _ ht,undef]
 simp only[wpListIn,Region.wanted,U] at I ⊢;exact⟨λ_ _=>trivial,I⟩
end rules
def Enters(P:Program)(f:FuncId):Prop:=∀args w,(callFunc f args).run P w=.ok (.enter f args) w
structure Υ (P:Program) (f:FuncId) (args:Array Value) (L:Ι) (post:Value->Ι->Prop):Prop where
 enters:Enters P f
 calls:∀θ R w,Sat θ (L++R) w->Calls P f args w λe dH=>∃v Ε,e=.returned v/\post v Ε/\Sat θ (Ε++R) dH
def Υ.mono{P:Program}{f:FuncId}{args:Array Value}{L:Ι}{post A : Value->Ι->Prop}(h:Υ P f args L post)(hp:∀v L,post v L->A v L):Υ P f args L A :=
 ⟨h.enters,λθ R w s=>(h.calls θ R w s).mono λ_ _ ⟨v,Ε,a,b,c⟩=>⟨v,Ε,a,hp _ _ b,c⟩⟩
def Υ.pre{P:Program}{f:FuncId}{args:Array Value}{L Ε : Ι}{post:Value->Ι->Prop}(h:Υ P f args Ε post)(T:E L Ε):Υ P f args L post :=
 ⟨h.enters,λθ R w s=>h.calls θ R w (T θ R w s)⟩
def OP(args:χ)(k:Nat):Env:=match args with
 | []=>[]
 | v::Δ=>(k,v)::OP Δ (k+1)
def sA(args:χ)(k t:Nat):(OP args k).lookup t=if k<=t then args[t - k]? else none:=by
 induction args generalizing k with
 | nil=>simp[OP]
 | cons v Δ ih =>
  simp only[OP,List.lookup_cons];by_cases h:t=k
  .subst h;simp
  .have hb:(t == k)=false:=by simpa using h
   simp only[hb,ih];by_cases hk:k+1<=t
   .rw[Ω hk,Ω (by omega),show t - k=(t - (k+1))+1 by omega];simp
   .rw[Ο hk,Ο (by omega)]
def T8(env:Env):List ResultVar->Option (χ)
 | []=>some []
 | .tmp t::Δ=>match env.lookup t,T8 env Δ with
  | some v,some vs=>some (v::vs)
  | _,_=>none
 | .cell _ _::_=>none
def O5:χ->Value
 | [v]=>v
 | vs=>.tuple vs.toArray
def Kh{P:Program}{N:Nat}{env:Env}{a:Act}(h:NY N env a)(w:World)(g:ResultVar->Sem Value)(hg:∀t,g (ResultVar.tmp t)=Sem.pure (a.tmps.getD t undef)) :
  ∀(rs:List ResultVar) (vs:χ),T8 env rs=some vs->(rs.mapM g).run P w=Result.ok vs w:=by
 intro rs;induction rs with
 | nil=>intro vs hv;simp[T8] at hv;subst hv;simp
 | cons Δ rs ih =>
  intro vs hv;cases Δ with
  | cell x t=>simp[T8] at hv
  | tmp t =>
   simp only[T8] at hv;split at hv
   .rename_i v ws I Q;simp at hv;subst hv;have h3:=h.at_ t v I;simp[List.mapM_cons,ih ws Q,hg,h3]
   .cases hv
def C9(P:Program)(N:Nat)(env:Env)(L:Ι)(rs:List ResultVar)(vs:χ):Prop :=
 ∀θ R a w,NY N env a->Sat θ (L++R) w->∀g:ResultVar->Sem Value,(∀t,g (ResultVar.tmp t)=Sem.pure (a.tmps.getD t undef))->(∀x t,g (ResultVar.cell x t)=(do loadVar t (<- asAddr (a.tmps.getD x undef))))->(rs.mapM g).run P w=Result.ok vs w
def C9.tmps{P:Program}{N:Nat}{env:Env}{L:Ι}{rs:List ResultVar}{vs:χ}(h:T8 env rs=some vs):C9 P N env L rs vs:=λ_ _ _ w ea _ g hg _=>Kh ea w g hg rs vs h
def C9.nil{P:Program}{N:Nat}{env:Env}{L:Ι}:C9 P N env L [] []:=C9.tmps rfl
def C9.tmp{P:Program}{N:Nat}{env:Env}{L:Ι}{rs:List ResultVar}{vs:χ}{t:Nat}{v:Value}(h:env.lookup t=some v)(hr:C9 P N env L rs vs):C9 P N env L (.tmp t::rs) (v::vs):=by
 intro θ R a w ea s g I Q;have h3:=ea.at_ t v h;simp[List.mapM_cons,hr θ R a w ea s g I Q,I,h3]
def ug{P:Program}{N:Nat}{env:Env}{L R:Ι}{θ:Th}{a:Act}{fn:Func}(h:NY N env a){w:World}(s:Sat θ (L++R) w){rs:List ResultVar}{vs:χ}(hf:fn.results=rs.toArray)(hv:C9 P N env L rs vs) :
  (results fn a.tmps).run P w=.ok (O5 vs) w:=by
 unfold results;rw[hf];simp only[List.mapM_toArray,Sem.run_bind,Sem.run_map];rw[hv θ R a w h s _ (λt=>rfl) (λx t=>rfl)];simp only[Result.andThen_ok,Sem.run_pure];congr 1;match vs with
 | []=>rfl
 | [v]=>rfl
 | v::u::Δ=>simp[O5]
def Ends(P:Program)(N:Nat)(rs:List ResultVar)(post:Value->Ι->Prop):F8:=λe env L=>(e=.ret\/e=.normal)/\∀θ R w,Sat θ (L++R) w->∃vs Ε,C9 P N env L rs vs/\Sat θ (Ε++R) w/\post (O5 vs) Ε
def qK{P:Program}{fn:Func}{tmps:Array Value}{R:Ending->World->Prop}{θ:Th}{aa:Ι}:∀(ο:List Nat) (w:World),Sat θ (E5 ο++aa) w->(∀dH,Sat θ aa dH->LeavesIn Fence.wide 0 P fn tmps R [] .returning dH)->LeavesInM Fence.wide 0 P fn tmps R (PZ ο) .returning w
 | [],w,s,h=>h w s
 | H7::ο,w,s,h=>by
  have s0:Sat θ (sh H7 (.deferred (some []))::(E5 ο++aa)) w:=s;have hb:=s0.M8;refine⟨by simp,.inl ⟨H7,{ w with heap:=w.heap.setIfInBounds H7 (.deferred none) },rfl,?_,?_⟩⟩
  .simp[Instr.takeDeferred,getObj,setObj,Sem.run,hb,bind,Sem.bind,pure]
  .have A:H7<w.heap.size:=(Array.getElem?_eq_some_iff.1 hb).1
   have s1:Sat θ (sh H7 (.deferred none)::(E5 ο++aa)) { w with heap:=w.heap.setIfInBounds H7 (.deferred none) }:=by
    refine s0.update ⟨s.1.tape,s.1.os,s.1.output,s.1.drawn⟩ (by simp[A]) ?_;intro k x hk M;simp only[Array.getElem?_setIfInBounds];rw[Ο (λe=>hk e.symm)];exact M
   exact qK ο _ s1.tail h
def Υ.body{P:Program}{f:FuncId}{fn:Func}{c:Code}{args:χ}{L:Ι}{post:Value->Ι->Prop}{rs:List ResultVar}(N:Nat)
  (he:Enters P f) (hf:P.funcs[f]? = some fn) (hb:fn.body=some c) (hr:fn.results=rs.toArray) (hN:fn.ntmps=N) (a9 : args.length<=N)
  (h:Β P N c (OP args 0) L (Ends P N rs post)):Υ P f args.toArray L post:=by
 refine⟨he,λθ R w s=>(callsIn_wide (n:=0)).1 (callsIn_of_wp_marks hf hb trivial ?_)⟩
 have ea:NY N (OP args 0) { tmps:=args.toArray++Array.replicate (fn.ntmps - args.toArray.size) undef,defers:=[] }:=by
  refine⟨by simp[hN];omega,?_⟩;intro t v ht;rw[sA] at ht;simp at ht;have a6:t<args.length:=(List.getElem?_eq_some_iff.1 ht).1;rw[Array.getElem?_append_left (by simpa using a6)];simpa using ht
 refine wpIn_mono (h none θ R _ w (λl T=>by cases T) ⟨[],ea,rfl,s⟩) ?_;rintro e a' dH ⟨a5,Ε,⟨ο,a4,hm,s'⟩,hex,a2⟩
 have A:LeavesInM Fence.wide 0 P fn a'.tmps (λe dH=>∃v Ε,e=.returned v/\post v Ε/\Sat θ (Ε++R) dH) a'.defers .returning dH:=by
  rw[hm]
  have s1:Sat θ (E5 ο++(Ε++R)) dH:=s'.perm (by
   rw[<-List.append_assoc,<-List.append_assoc];exact List.perm_append_comm.append_right R)
  refine qK ο dH s1 λw₂ s₂=>?_;obtain⟨vs,Rk,a7,a3,J⟩:=a2 θ R w₂ s₂;exact⟨_,ug (P:=P) a4 s₂ hr a7,_,Rk,rfl,J,a3⟩
 rcases hex with rfl|rfl
 .exact A
 .exact A
def Ef.call{P:Program}{env:Env}{L R' : Ι}{f:FuncId}{G:Array Operand}{ats:Array TypeId}{ty:TypeId}{vs:χ}{pre:Ι}{post:Value->Ι->Prop}
  (c:Υ P f vs.toArray pre post) (hv:fG env G.toList=some vs) (hL:E L (pre++R')) :
  Ef P L env (.call { callee:=.value (.func f),args:=G,argTypes:=ats }) ty (λv Ε=>∃L₁,post v L₁/\Ε = L₁++R'):=by
 rintro θ R a w ⟨a2,a4,a3,pos,af,g⟩ next F9 ha s rfl rfl hn
 have A:G.map a.eval=vs.toArray:=by
  apply Array.ext';simpa using ha.list G.toList vs hv
 have J:(execOp a.eval ⟨a2,.call { callee:=.value (.func f),args:=G,argTypes:=ats },a3,pos,af,g⟩).run P w=.ok (.enter f vs.toArray) w:=by
  simp[execOp,resolve,Deferred.ofValue,Act.eval,invoke,A];exact c.enters _ _
 rw[Oper.wp,J,Oper.upon_enter];refine(c.calls θ (R'++R) w (by rw[<-List.append_assoc];exact hL θ R w s)).mono ?_;rintro e dH ⟨v,Ε,rfl,hp,s'⟩;exact hn v _ dH ⟨Ε,hp,rfl⟩ (by rw[List.append_assoc];exact s')
def dB(p:Prop)[Decidable p]:Bool:=decide p
theorem dF(p:Prop)[Decidable p]:dB p=decide p:=rfl
attribute [irreducible] dB
theorem bO{p:Prop}[Decidable p](h:p):dB p=true:=by rw[dF];exact decide_eq_true h
theorem bz{p:Prop}[Decidable p](h:¬p):dB p=false:=by rw[dF];exact decide_eq_false h
def CB(b:Bool)(p q:Prop):Prop:=(b=true->p)/\(b=false->q)
def CB.tt{p q:Prop}(h:p):CB true p q:=⟨λ_=>h,λh=>by cases h⟩
def CB.ff{p q:Prop}(h:q):CB false p q:=⟨λh=>(by cases h),λ_=>h⟩
def CB.dec{φ:Prop}[Decidable φ]{p q:Prop}(h:φ->p)(h' : ¬φ->q):CB (dB φ) p q:=⟨λe=>h (of_decide_eq_true (by rw[<-dF];exact e)),λe=>h' (of_decide_eq_false (by rw[<-dF];exact e))⟩
def CB.pos{φ:Prop}[Decidable φ]{p q:Prop}(hφ:φ)(h:p):CB (dB φ) p q:=CB.dec (λ_=>h) (λe=>iJ hφ e)
def CB.neg{φ:Prop}[Decidable φ]{p q:Prop}(hφ:¬φ)(h:q):CB (dB φ) p q:=CB.dec (λe=>iJ e hφ) (λ_=>h)
def CB.bool{b:Bool}{p q:Prop}(h:b=true->p)(h' : b=false->q):CB b p q:=⟨h,h'⟩
def GB(b:Bool)(p p' q q' : Prop):Prop:=(b=true->p\/p')/\(b=false->q\/q')
def GB.tt{p p' q q' : Prop}(h:p):GB true p p' q q':=⟨λ_=>.inl h,λh=>by cases h⟩
def GB.ff{p p' q q' : Prop}(h:q):GB false p p' q q':=⟨λh=>(by cases h),λ_=>.inl h⟩
def GB.dec{φ:Prop}[Decidable φ]{p p' q q' : Prop}(h:φ->p')(h' : ¬φ->q'):GB (dB φ) p p' q q':=⟨λe=>.inr (h (of_decide_eq_true (by rw[<-dF];exact e))),λe=>.inr (h' (of_decide_eq_false (by rw[<-dF];exact e)))⟩
def GB.pos{φ:Prop}[Decidable φ]{p p' q q' : Prop}(hφ:φ)(h:p'):GB (dB φ) p p' q q':=GB.dec (λ_=>h) (λe=>iJ hφ e)
def GB.neg{φ:Prop}[Decidable φ]{p p' q q' : Prop}(hφ:¬φ)(h:q'):GB (dB φ) p p' q q':=GB.dec (λe=>iJ e hφ) (λ_=>h)
def GB.bool{b:Bool}{p p' q q' : Prop}(h:b=true->p')(h' : b=false->q'):GB b p p' q q':=⟨λe=>.inr (h e),λe=>.inr (h' e)⟩
def Β.cond{P:Program}{N:Nat}{env:Env}{L:Ι}{Ρ:F8}{c:Operand}{x y:Code}{b:Bool}(hc:bG env c=some (.bool b))(h:CB b (Β P N x env L Ρ) (Β P N y env L Ρ)):Β P N (.cond c x y) env L Ρ :=
 Β.g9 hc h.1 h.2
def Y.f8{P:Program}{N:Nat}{env:Env}{L:Ι}{Ρ:F8}{A:Array Oper}{cR:List Oper}{Ξ:Nat}{op:Op}{ty:TypeId}{pos:String}{af:Array Edge}{j t:Nat}{c:Bool}
  (hj:(A[j]?).bind (·.dst)=some t) (ht:env.lookup t=some (.bool c)) (hd:Ξ<N)
  (h:GB c (Y P N A (⟨some Ξ,op,ty,pos,af,none⟩::cR) env L Ρ) (Y P N A (⟨some Ξ,op,ty,pos,af,none⟩::cR) ((t,.bool true)::env) L Ρ) (Y P N A cR ((Ξ,undef)::env) L Ρ) (Y P N A cR ((Ξ,undef)::(t,.bool false)::env) L Ρ)) :
  Y P N A (⟨some Ξ,op,ty,pos,af,some (j,true)⟩::cR) env L Ρ:=by
 cases c with
 | true=>exact Y.d9 hj ht ((h.1 rfl).elim id λh=>h.Q2 (On.cons ht (On.refl _)) (E.refl _))
 | false=>exact Y.f7 hj ht rfl hd ((h.2 rfl).elim id λh=>h.Q2 (by
   intro u v hu;simp only[List.lookup_cons] at hu ⊢;split
   .rename_i e;simp only[e] at hu;exact hu
   .rename_i e;simp only[e] at hu;split at hu
    .rename_i e2;rw[beq_iff_eq] at e2;subst e2;rw[ht];exact hu
    .exact hu) (E.refl _))
def Y.f9{P:Program}{N:Nat}{env:Env}{L:Ι}{Ρ:F8}{A:Array Oper}{cR:List Oper}{Ξ:Nat}{op:Op}{ty:TypeId}{pos:String}{af:Array Edge}{j t:Nat}{c:Bool}
  (hj:(A[j]?).bind (·.dst)=some t) (ht:env.lookup t=some (.bool c)) (hd:Ξ<N)
  (h:GB c (Y P N A cR ((Ξ,undef)::env) L Ρ) (Y P N A cR ((Ξ,undef)::(t,.bool true)::env) L Ρ) (Y P N A (⟨some Ξ,op,ty,pos,af,none⟩::cR) env L Ρ) (Y P N A (⟨some Ξ,op,ty,pos,af,none⟩::cR) ((t,.bool false)::env) L Ρ)) :
  Y P N A (⟨some Ξ,op,ty,pos,af,some (j,false)⟩::cR) env L Ρ:=by
 cases c with
 | false=>exact Y.d9 hj ht ((h.2 rfl).elim id λh=>h.Q2 (On.cons ht (On.refl _)) (E.refl _))
 | true=>exact Y.f7 hj ht rfl hd ((h.1 rfl).elim id λh=>h.Q2 (by
   intro u v hu;simp only[List.lookup_cons] at hu ⊢;split
   .rename_i e;simp only[e] at hu;exact hu
   .rename_i e;simp only[e] at hu;split at hu
    .rename_i e2;rw[beq_iff_eq] at e2;subst e2;rw[ht];exact hu
    .exact hu) (E.refl _))
section kx
variable {P:Program}{N:Nat}{env:Env}{L:Ι}{Ρ:F8}{n:Env->Ι->Prop}
def KX.f7{r:Nat}(h:Ρ (.exit r) env L):F8.seq n Ρ (.exit r) env L:=h
def KX.g8(h:Ρ .ret env L):F8.seq n Ρ .ret env L:=h
def KX.d7(h:n env L):F8.seq n Ρ .normal env L:=h
def KX.f8{y:Code}(h:Β P N y env L Ρ):F8.seq (λA Ε=>Β P N y A Ε Ρ) Ρ .normal env L:=h
def KX.d8{r:Nat}(h:Ρ .normal env L):F8.inBlock r Ρ (.exit r) env L:=by simpa [F8.inBlock] using h
def KX.c9{r A : Nat}(J:A≠r)(h:Ρ (.exit A) env L):F8.inBlock r Ρ (.exit A) env L:=by simpa [F8.inBlock,J] using h
def KX.d9{r:Nat}(h:Ρ .ret env L):F8.inBlock r Ρ .ret env L:=h
theorem KX.c7{r:Nat}(h:Ρ .normal env L):F8.inBlock r Ρ .normal env L:=h
theorem KX.a8{rs:List ResultVar}{post:Value->Ι->Prop}{vs:χ}{Ε : Ι}(I:C9 P N env L rs vs)(Q:E L Ε)(h3:post (O5 vs) Ε):Ends P N rs post .ret env L:=⟨.inl rfl,λθ R w s=>⟨vs,Ε,I,Q θ R w s,h3⟩⟩
def KX.c8{rs:List ResultVar}{post:Value->Ι->Prop}{vs:χ}{Ε : Ι}(I:C9 P N env L rs vs)(Q:E L Ε)(h3:post (O5 vs) Ε):Ends P N rs post .normal env L:=⟨.inr rfl,λθ R w s=>⟨vs,Ε,I,Q θ R w s,h3⟩⟩
def KX.f9{rs:List ResultVar}{post:Value->Ι->Prop}{e:Exit}{φ:Prop}(he:e=.ret\/e=.normal)(h:∀θ R w,Sat θ (L++R) w->φ)(k:φ->Ends P N rs post e env L):Ends P N rs post e env L:=⟨he,λθ R w s=>(k (h θ R w s)).2 θ R w s⟩
def KX.cM{rs:List ResultVar}{post:Value->Ι->Prop}{vs:χ}{Ε : Ι}(A:C9 P N env L rs vs)(J:E L Ε)(h3:Ends P N rs post .ret env L):Ends P N rs post .ret env L:=h3
