/- The logic of heaps: assertions about owned and immutable blocks, and judgements about code and operations. Holds for any program; no condition. -/
import Derived.WalkKit
import Derived.Orders
import Derived.Deep.LoopGhost
import Derived.OrdersIn
import Derived.TacticsIn
import Derived.RangeFuncLeaves
set_option linter.all false
namespace Go.V
theorem Χ.{u}{c:Prop}{h:Decidable c}(k:c){α:Sort u}{t e:α}:ite c t e=t:=if_pos k
theorem Ν.{u}{c:Prop}{h:Decidable c}(k:¬c){α:Sort u}{t e:α}:ite c t e=e:=if_neg k
def hD.{u}{a:Prop}{b:Sort u}(h:a)(k:¬a):b:=absurd h k
theorem F6.{u}{α:Type u}{a b:α}(h:b∈[a]):b=a:=List.mem_singleton.1 h
theorem J8.{u}{α:Type u}{a:α}{s t:List α}(h:a∈s++t):a∈s\/a∈t:=List.mem_append.1 h
theorem H9.{u,v}{α:Type u}{β:Type v}{b:β}{f:α->β}{l:List α}(h:b∈l.map f):∃a,a∈l/\f a=b:=List.mem_map.1 h
theorem Nj.{u}{α:Type u}{a b:α}{l:List α}(h:a∈b::l):a=b\/a∈l:=List.mem_cons.1 h
theorem Pr.{u}{α:Type u}{a b:α}(h:some a=some b):a=b:=Option.some.inj h
abbrev τ:=List Value
abbrev OA:=Option Addr
abbrev Hp:=Nat->Option Obj
def Hp.sub(a b:Hp):Prop:=∀k o,a k=some o->b k=some o
def Hp.Qn(a b:Hp):Prop:=∀k o,a k=some o->b k=none
def Hp.c8(a b:Hp):Hp:=λk=>(a k).or (b k)
def Hp.emp:Hp:=λ_=>none
theorem Hp.sub.refl(a:Hp):Hp.sub a a:=λ_ _ h=>h
theorem Hp.sub.trans{a b c:Hp}(h:Hp.sub a b)(k:Hp.sub b c):Hp.sub a c:=λi o x=>k i o (h i o x)
def Hp.Qn.symm{a b:Hp}(h:Hp.Qn a b):Hp.Qn b a:=by
 intro k o hb;cases ha:a k with
 | none=>rfl
 | some x=>have:=h k x ha;rw[hb] at this;cases this
def Hp.Qn.mono{a b a' b' : Hp}(h:Hp.Qn a b)(ha:Hp.sub a' a)(hb:Hp.sub b' b):Hp.Qn a' b':=by
 intro k o x;have K:=h k o (ha k o x);cases hk:b' k with
 | none=>rfl
 | some y=>have:=hb k y hk;rw[K] at this;cases this
theorem Hp.c7(a:Hp):Hp.Qn Hp.emp a:=λ_ _ h=>by cases h
theorem Hp.a8(a:Hp):Hp.sub Hp.emp a:=λ_ _ h=>by cases h
def Hp.d7(a b:Hp):Hp.sub a (Hp.c8 a b):=λk o h=>by simp[Hp.c8,h]
def Hp.c9{a b:Hp}(h:Hp.Qn a b):Hp.sub b (Hp.c8 a b):=λk o hk=>by
 have:=h.symm k o hk
 simp[Hp.c8,this,hk]
def Hp.d9{a b c:Hp}(h:Hp.sub a c)(h' : Hp.sub b c):Hp.sub (Hp.c8 a b) c:=by
 intro k o hk;unfold Hp.c8 at hk;cases ha:a k with
 | none=>rw[ha] at hk;exact h' k o (by simpa using hk)
 | some x=>rw[ha] at hk;simp at hk;subst hk;exact h k x ha
def Hp.d8{a b c:Hp}(h:Hp.Qn a b)(h' : Hp.Qn a c):Hp.Qn a (Hp.c8 b c):=by
 intro k o hk;simp[Hp.c8,h k o hk,h' k o hk]
abbrev HP:=Hp->Hp->Prop
abbrev Η:=List HP
def M6:Η->Hp->Hp->Prop
 | [],_,_=>True
 | p::L,ι,h=>∃G6 E4 D4,Hp.sub G6 ι/\Hp.Qn E4 D4/\Hp.sub E4 h/\Hp.sub D4 h/\p G6 E4/\M6 L ι D4
def M6.mono{L:Η}{ι ι' h h' : Hp}(hi:Hp.sub ι ι')(hh:Hp.sub h h')(s:M6 L ι h):M6 L ι' h':=by
 induction L generalizing h h' with
 | nil=>trivial
 | cons p L ih =>
  obtain⟨G6,E4,D4,a,b,c,Μ,e,f⟩:=s;exact⟨G6,E4,D4,a.trans hi,b,c.trans hh,Μ.trans hh,e,ih (Hp.sub.refl _) f⟩
def M6.swap{p q:HP}{L:Η}{ι h:Hp}(s:M6 (p::q::L) ι h):M6 (q::p::L) ι h:=by
 obtain⟨Sw,E4,D4,M,b1,c1,d1,e1,VI,h₃,h₄,a2,b2,c2,d2,e2,f2⟩:=s;have B:Hp.Qn E4 h₄:=b1.mono (Hp.sub.refl _) d2;refine⟨VI,h₃,Hp.c8 E4 h₄,a2,Hp.d8 (b1.mono (Hp.sub.refl _) c2).symm b2,c2.trans d1,Hp.d9 c1 (d2.trans d1),e2,?_⟩;exact⟨Sw,E4,h₄,M,B,Hp.d7 _ _,Hp.c9 B,e1,f2⟩
def M6.perm{L Γ : Η}(hp:L.Perm Γ):∀{ι h:Hp},M6 L ι h->M6 Γ ι h:=by
 induction hp with
 | nil=>exact λs=>s
 | cons p _ ih=>exact λ⟨G6,E4,D4,a,b,c,Μ,e,f⟩=>⟨G6,E4,D4,a,b,c,Μ,e,ih f⟩
 | swap p q l=>exact λs=>s.swap
 | trans _ _ ih1 ih2=>exact λs=>ih2 (ih1 s)
def M6.split{Ο fG:Η}{ι h:Hp}(s:M6 (Ο++fG) ι h):∃E4 D4,Hp.Qn E4 D4/\Hp.sub E4 h/\Hp.sub D4 h/\M6 Ο ι E4/\M6 fG ι D4:=by
 induction Ο generalizing h with
 | nil=>exact⟨Hp.emp,h,Hp.c7 _,Hp.a8 _,Hp.sub.refl _,trivial,s⟩
 | cons p Ο ih =>
  obtain⟨G6,x₁,x₂,a,b,c,Μ,e,f⟩:=s;obtain⟨y₁,y₂,g1,g2,g3,g4,g5⟩:=ih f;have K:Hp.Qn x₁ y₁:=b.mono (Hp.sub.refl _) g2;refine⟨Hp.c8 x₁ y₁,y₂,(Hp.d8 (b.mono (Hp.sub.refl _) g3).symm g1.symm).symm,Hp.d9 c (g2.trans Μ),g3.trans Μ,?_,g5⟩;exact⟨G6,x₁,y₁,a,K,Hp.d7 _ _,Hp.c9 K,e,g4⟩
theorem M6.a8{Ο fG:Η}{ι h E4 D4:Hp}(hd:Hp.Qn E4 D4)(s1:Hp.sub E4 h)(s2:Hp.sub D4 h)(a:M6 Ο ι E4)(b:M6 fG ι D4):M6 (Ο++fG) ι h:=by
 induction Ο generalizing h E4 with
 | nil=>exact b.mono (Hp.sub.refl _) s2
 | cons p Ο ih =>
  obtain⟨G6,x₁,x₂,M,b1,c1,d1,e1,f1⟩:=a;have B:Hp.Qn x₂ D4:=hd.mono d1 (Hp.sub.refl _);refine⟨G6,x₁,Hp.c8 x₂ D4,M,Hp.d8 b1 (hd.mono c1 (Hp.sub.refl _)),c1.trans s1,Hp.d9 (d1.trans s1) s2,e1,?_⟩;exact ih B (Hp.d7 _ _) (Hp.c9 B) f1
structure Th where
 tape:Nat->Question->Nat
 os:Os
 output:Array (Nat×ByteArray)
 lo:Nat
structure Th.ok (θ:Th) (w:World):Prop where
 tape:w.tape=θ.tape
 os:w.os=θ.os
 output:w.output=θ.output
 drawn:θ.lo<=w.drawn
def HG{α:Type}:∀(m:Ask α) (w:World),w.drawn<=(w.ask m).2.drawn:=by
 intro m;induction m with
 | done a=>intro w;exact Nat.le_refl _
 | ask what range k ih =>
  intro w;simp only[World.ask];split
  .exact ih _ w
  .exact Nat.le_trans (Nat.le_succ _) (ih _ { w with drawn:=w.drawn+1 })
def tU{p:Program}{w cO : World}{at_:Addr}{u:TypeId}{k:Addr}{v:Value}{B:Bool}{l:List Addr}(h:w.viewStore p at_ u k v B=.ok (cO,l)):cO.drawn=w.drawn:=by
 simp only[World.viewStore,bind,Except.bind,pure,Except.pure,throw,throwThe,MonadExceptOf.throw] at h;repeat' (split at h)
 all_goals first|(simp only[Except.ok.injEq,Prod.mk.injEq] at h;obtain⟨rfl,_⟩:=h;rfl)|cases h
def lZ{α:Type}{P:Program}:∀(m:Sem α) {w cO : World} {x:α},m.run P w=.ok x cO->w.drawn<=cO.drawn:=by
 intro m;induction m with
 | pure a=>intro w cO x h;simp only[Sem.run,Result.ok.injEq] at h;obtain⟨_,rfl⟩:=h;exact Nat.le_refl _
 | load m a k ih =>
  intro w cO x h;simp only[Sem.run] at h;split at h
  .exact ih _ h
  .split at h
   .exact ih _ h
   .cases h
 | store m a v k ih =>
  intro w cO x h
  have go:(match w.cell? a with
    | some _ => if w.frozen? a then .halt (.unsupported (.unsafePointer "a write to bytes that a string shares")) w else k.run P (w.setCell a v)
    | none=>match w.farStore P a v (m == .atomic) with
     | .ok (w,_)=>k.run P w
     | .error h=>.halt h w)=Result.ok x cO->w.drawn<=cO.drawn:=by
   intro h;split at h
   .split at h
    .cases h
    .exact ih (w:=w.setCell a v) h
   .split at h
    .rename_i T;unfold World.farStore at T;split at T
     .split at T
      .rename_i h3;cases T;have:=tU h3
       have:=ih h
       omega
      .cases T
     .cases T
    .cases h
  cases v;all_goals first|exact go h|(simp only[Sem.run] at h;cases h)
 | new o k ih=>intro w cO x h;exact ih _ (w:={ w with heap:=w.heap.push o }) h
 | shape r k ih=>intro w cO x h;exact ih _ h
 | freeze a n k ih =>
  intro w cO x h;have K:=ih (w:=w.freeze a n) h;have T:(w.freeze a n).drawn=w.drawn:=by unfold World.freeze;split<;>rfl
  omega
 | frozen a k ih=>intro w cO x h;exact ih _ h
 | getObj r k ih =>
  intro w cO x h;simp only[Sem.run] at h;split at h
  .cases h
  .exact ih _ h
  .cases h
 | setObj r o k ih =>
  intro w cO x h;simp only[Sem.run] at h;split at h
  .cases h
  .exact ih (w:={ w with heap:=w.heap.setIfInBounds r o }) h
  .cases h
 | choose q k ih =>
  intro w cO x h;simp only[Sem.run] at h;split at h
  .exact ih _ h
  .exact Nat.le_trans (Nat.le_succ _) (ih _ h)
 | sys c k ih =>
  intro w cO x h;simp only[Sem.run] at h;have K:=ih _ h;refine Nat.le_trans ?_ K;unfold World.sys;have T:=HG (Kernel.perform c w.os) w;split
  .exact Nat.le_refl _
  .rename_i heq;rw[heq] at T;exact T
 | program k ih=>intro w cO x h;exact ih _ h
 | mark m k ih=>intro w cO x h;exact ih h
 | halt h=>intro w cO x h;cases h
def ib(w:World):Hp:=λk=>w.heap[k]?
def Sat(θ:Th)(L:Η)(w:World):Prop :=
 θ.ok w/\∃ι h,Hp.Qn ι h/\Hp.sub ι (ib w)/\Hp.sub h (ib w)/\M6 L ι h
def Sat.perm{θ:Th}{L Γ : Η}{w:World}(s:Sat θ L w)(hp:L.Perm Γ):Sat θ Γ w :=
 let ⟨h0,ι,h,a,b,c,Μ⟩:=s;⟨h0,ι,h,a,b,c,Μ.perm hp⟩
def Sat.tail{θ:Th}{p:HP}{L:Η}{w:World}(s:Sat θ (p::L) w):Sat θ L w :=
 let ⟨h0,ι,h,a,b,c,_,_,_,_,_,_,x,_,y⟩:=s;⟨h0,ι,h,a,b,c,y.mono (Hp.sub.refl _) x⟩
def Sat.keep{θ:Th}{L:Η}{w cO : World}(s:Sat θ L w)(ok:θ.ok cO)(hk:∀(k:Nat) (o:Obj),w.heap[k]? = some o->cO.heap[k]? = some o):Sat θ L cO :=
 let ⟨_,ι,h,a,b,c,Μ⟩:=s;⟨ok,ι,h,a,λk o x=>hk k o (b k o x),λk o x=>hk k o (c k o x),Μ⟩
def Sat.drew{θ:Th}{L:Η}{w:World}(s:Sat θ L w):Sat θ L { w with drawn:=w.drawn+1 } :=
 s.keep ⟨s.1.tape,s.1.os,s.1.output,Nat.le_succ_of_le s.1.drawn⟩ (λ_ _ h=>h)
def jC(b:Nat)(o:Obj):HP:=λ_ h=>h b=some o
def Xh(b:Nat)(o:Obj):HP:=λι _=>ι b=some o
def ee(φ:Prop):HP:=λ_ _=>φ
def hex{α:Type}(f:α->HP):HP:=λι h=>∃x,f x ι h
def cx(L:Η):HP:=λι h=>M6 L ι h
def Sat.Nr{θ:Th}{b:Nat}{o:Obj}{L:Η}{w:World}(s:Sat θ (jC b o::L) w):w.heap[b]? = some o:=by
 obtain⟨_,ι,h,a,b1,c,G6,E4,D4,d1,d2,d3,d4,d5,d6⟩:=s;exact c b o (d3 b o d5)
def Sat.update{θ:Th}{b:Nat}{o o' : Obj}{L:Η}{w cO : World}(s:Sat θ (jC b o::L) w)(ok:θ.ok cO)
  (hb:cO.heap[b]? = some o') (hk:∀(k:Nat) (x:Obj),k≠b->w.heap[k]? = some x->cO.heap[k]? = some x):Sat θ (jC b o'::L) cO:=by
 obtain⟨_,ι,h,a,b1,c,G6,E4,D4,d1,d2,d3,d4,d5,d6⟩:=s;have a3:h b=some o:=d3 b o d5;have a2:ι b=none:=a.symm b o a3;have M:D4 b=none:=d2 b o d5;refine⟨ok,ι,λk=>if k=b then some o' else D4 k,?_,?_,?_,G6,λk=>if k=b then some o' else none,D4,d1,?_,?_,?_,by simp[jC],d6⟩
 .intro k x O;by_cases B:k=b
  .subst B;rw[a2] at O;cases O
  .simp only[B,if_false];exact(a.mono (Hp.sub.refl _) d4) k x O
 .intro k x O;by_cases B:k=b
  .subst B;rw[a2] at O;cases O
  .exact hk k x B (b1 k x O)
 .intro k x O;by_cases B:k=b
  .subst B;simp at O;subst O;exact hb
  .simp only[B,if_false] at O;exact hk k x B (c k x (d4 k x O))
 .intro k x O;by_cases B:k=b
  .subst B;exact M
  .simp[B] at O
 .intro k x O;by_cases B:k=b
  .simpa [B] using O
  .simp[B] at O
 .intro k x O;by_cases B:k=b
  .subst B;rw[M] at O;cases O
  .simpa [B] using O
def Sat.fresh{θ:Th}{b:Nat}{o:Obj}{L:Η}{w cO : World}(s:Sat θ L w)(ok:θ.ok cO)(hn:w.heap.size<=b)
  (hb:cO.heap[b]? = some o) (hk:∀(k:Nat) (x:Obj),w.heap[k]? = some x->cO.heap[k]? = some x):Sat θ (jC b o::L) cO:=by
 obtain⟨_,ι,h,a,b1,c,Μ⟩:=s
 have M:∀g:Hp,Hp.sub g (ib w)->g b=none:=λg hg=>by
  cases O:g b with
  | none=>rfl
  | some x =>
   have K:w.heap[b]? = some x:=hg b x O;rw[Array.getElem?_eq_none hn] at K;cases K
 have hi:=M ι b1;have hh:=M h c;refine⟨ok,ι,λk=>if k=b then some o else h k,?_,λk x O=>hk k x (b1 k x O),?_,Hp.emp,λk=>if k=b then some o else none,h,Hp.a8 _,?_,?_,?_,by simp[jC],Μ⟩
 .intro k x O;by_cases B:k=b
  .subst B;rw[hi] at O;cases O
  .simp only[B,if_false];exact a k x O
 .intro k x O;by_cases B:k=b
  .subst B;simp at O;subst O;exact hb
  .simp only[B,if_false] at O;exact hk k x (c k x O)
 .intro k x O;by_cases B:k=b
  .subst B;exact hh
  .simp[B] at O
 .intro k x O;by_cases B:k=b
  .simpa [B] using O
  .simp[B] at O
 .intro k x O;by_cases B:k=b
  .subst B;rw[hh] at O;cases O
  .simpa [B] using O
def Sat.alloc{θ:Th}{o:Obj}{L:Η}{w:World}(s:Sat θ L w):Sat θ (jC w.heap.size o::L) (w.alloc o) :=
 s.fresh ⟨s.1.tape,s.1.os,s.1.output,s.1.drawn⟩ (Nat.le_refl _) (heap_alloc_new w o) (λk x O=>by
  rw[heap_alloc_old w o (Array.getElem?_eq_some_iff.1 O).1];exact O)
def Sat.freeze{θ:Th}{b:Nat}{o:Obj}{L:Η}{w:World}(s:Sat θ (jC b o::L) w):Sat θ (Xh b o::L) w:=by
 obtain⟨ok,ι,h,a,b1,c,G6,E4,D4,d1,d2,d3,d4,d5,d6⟩:=s;have M:D4 b=none:=d2 b o d5;refine⟨ok,λk=>if k=b then some o else ι k,D4,?_,?_,d4.trans c,λk=>if k=b then some o else none,Hp.emp,D4,?_,Hp.c7 _,Hp.a8 _,Hp.sub.refl _,by simp[Xh],d6.mono ?_ (Hp.sub.refl _)⟩
 .intro k x O;by_cases B:k=b
  .subst B;exact M
  .simp only[B,if_false] at O;exact(a.mono (Hp.sub.refl _) d4) k x O
 .intro k x O;by_cases B:k=b
  .subst B;simp at O;subst O;exact c k o (d3 k o d5)
  .simp only[B,if_false] at O;exact b1 k x O
 .intro k x O;by_cases B:k=b
  .simpa [B] using O
  .simp[B] at O
 .intro k x O;by_cases B:k=b
  .subst B;have:=a k x O
   rw[d3 k o d5] at this;cases this
  .simpa [B] using O
def Sat.TH{θ:Th}{φ:Prop}{L:Η}{w:World}(s:Sat θ (ee φ::L) w):φ:=by
 obtain⟨_,ι,h,a,b1,c,G6,E4,D4,d1,d2,d3,d4,d5,d6⟩:=s;exact d5
def Sat.Vb{θ:Th}{φ:Prop}{L:Η}{w:World}(s:Sat θ L w)(h:φ):Sat θ (ee φ::L) w:=by
 obtain⟨ok,ι,h',a,b1,c,Μ⟩:=s;exact⟨ok,ι,h',a,b1,c,Hp.emp,Hp.emp,h',Hp.a8 _,Hp.c7 _,Hp.a8 _,Hp.sub.refl _,h,Μ⟩
def Sat.TI{θ:Th}{α:Type}{f:α->HP}{L:Η}{w:World}(s:Sat θ (hex f::L) w):∃x,Sat θ (f x::L) w:=by
 obtain⟨ok,ι,h,a,b1,c,G6,E4,D4,d1,d2,d3,d4,⟨x,d5⟩,d6⟩:=s;exact⟨x,ok,ι,h,a,b1,c,G6,E4,D4,d1,d2,d3,d4,d5,d6⟩
def Sat.d8{θ:Th}{α:Type}{f:α->HP}{L:Η}{w:World}(x:α)(s:Sat θ (f x::L) w):Sat θ (hex f::L) w:=by
 obtain⟨ok,ι,h,a,b1,c,G6,E4,D4,d1,d2,d3,d4,d5,d6⟩:=s;exact⟨ok,ι,h,a,b1,c,G6,E4,D4,d1,d2,d3,d4,⟨x,d5⟩,d6⟩
def Sat.QB{θ:Th}{Ο L:Η}{w:World}(s:Sat θ (cx Ο::L) w):Sat θ (Ο++L) w:=by
 obtain⟨ok,ι,h,a,b1,c,G6,E4,D4,d1,d2,d3,d4,d5,d6⟩:=s;exact⟨ok,ι,h,a,b1,c,M6.a8 d2 d3 d4 (M6.mono d1 (Hp.sub.refl _) d5) d6⟩
theorem Sat.a8{θ:Th}{Ο L:Η}{w:World}(s:Sat θ (Ο++L) w):Sat θ (cx Ο::L) w:=by
 obtain⟨ok,ι,h,a,b1,c,Μ⟩:=s;obtain⟨E4,D4,g1,g2,g3,g4,g5⟩:=Μ.split;exact⟨ok,ι,h,a,b1,c,ι,E4,D4,Hp.sub.refl _,g1,g2,g3,g4,g5⟩
def VJ(Ο:HP):Prop:=∀ι h,Ο ι h->Ο ι Hp.emp
def Sat.dup{θ:Th}{Ο:HP}(hA:VJ Ο){L:Η}{w:World}(s:Sat θ (Ο::L) w):Sat θ (Ο::Ο::L) w:=by
 obtain⟨ok,ι,h,a,b1,c,G6,E4,D4,d1,d2,d3,d4,d5,d6⟩:=s;exact⟨ok,ι,h,a,b1,c,G6,Hp.emp,h,d1,Hp.c7 _,Hp.a8 _,Hp.sub.refl _,hA _ _ d5,G6,E4,D4,d1,d2,d3,d4,d5,d6⟩
def F(L Γ : Η):Prop:=∀θ R w,Sat θ (L++R) w->Sat θ (Γ++R) w
theorem F.refl(L:Η):F L L:=λ_ _ _ h=>h
theorem F.trans{Ο fG C:Η}(h:F Ο fG)(k:F fG C):F Ο C:=λθ R w s=>k θ R w (h θ R w s)
def F.perm{L Γ : Η}(h:L.Perm Γ):F L Γ:=λ_ R _ s=>s.perm (h.append_right R)
def F.drop{p:HP}{L:Η}:F (p::L) L:=λ_ _ _ s=>s.tail
def F.cons{p:HP}{L Γ : Η}(h:F L Γ):F (p::L) (p::Γ):=λθ R w s =>
 ((h θ (p::R) w ((show Sat θ (p::(L++R)) w from s).perm List.perm_middle.symm)).perm List.perm_middle)
def F.append{Ο fG C H8:Η}(h:F Ο fG)(k:F C H8):F (Ο++C) (fG++H8):=by
 intro θ R w s;rw[List.append_assoc] at s ⊢;have s1:=h θ _ w s;have s2:Sat θ (C++(fG++R)) w:=s1.perm (by rw[<-List.append_assoc,<-List.append_assoc];exact List.perm_append_comm.append_right R);have s3:=k θ _ w s2;exact s3.perm (by rw[<-List.append_assoc,<-List.append_assoc];exact List.perm_append_comm.append_right R)
def F.nil(L:Η):F L []:=by
 intro θ R w s;induction L with
 | nil=>exact s
 | cons p L ih=>exact ih s.tail
abbrev Env:=List (Nat×Value)
structure Ol (N:Nat) (env:Env) (a:Act):Prop where
 size:a.tmps.size=N
 at_:∀t v,env.lookup t=some v->a.tmps[t]? = some v
def cq(env:Env):Operand->Option Value
 | .tmp t=>env.lookup t
 | .const v=>some v
 | .global g=>some (.pointer (some ⟨g,0,none⟩))
 | .func f=>some (.func (.func f) #[] #[])
def QC(env:Env)(ρ:Operand->Value):Prop:=∀x v,cq env x=some v->ρ x=v
def aJ{env:Env}{ρ:Operand->Value}(h:QC env ρ){x:Operand}{v:Value}(O:cq env x=some v):ρ x=v:=h x v O
def Ol.Pk{N:Nat}{env:Env}{a:Act}(h:Ol N env a):QC env a.eval:=by
 intro x v O;cases x with
 | tmp t=>have:=h.at_ t v O;simp[Act.eval,this]
 | const c=>simpa [cq,Act.eval] using O
 | global g=>simpa [cq,Act.eval] using O
 | func f=>simpa [cq,Act.eval] using O
def fD(env:Env):List Operand->Option (τ)
 | []=>some []
 | x::r=>match cq env x,fD env r with
  | some v,some vs=>some (v::vs)
  | _,_=>none
def kO(env:Env):List (Nat×Operand)->Option (List (Nat×Value))
 | []=>some []
 | (i,x)::r=>match cq env x,kO env r with
  | some v,some vs=>some ((i,v)::vs)
  | _,_=>none
def QC.list{env:Env}{ρ:Operand->Value}(h:QC env ρ):∀(l:List Operand) (vs:τ),fD env l=some vs->l.map ρ=vs:=by
 intro l;induction l with
 | nil=>intro vs hv;simp[fD] at hv;simp[hv]
 | cons x l ih =>
  intro vs hv;simp only[fD] at hv;split at hv
  .rename_i v us K T;simp at hv;subst hv;simp[h x v K,ih us T]
  .cases hv
def QC.pairs{env:Env}{ρ:Operand->Value}(h:QC env ρ):∀(l:List (Nat×Operand)) (vs:List (Nat×Value)),kO env l=some vs->l.map (λp=>(p.1,ρ p.2))=vs:=by
 intro l;induction l with
 | nil=>intro vs hv;simp[kO] at hv;simp[hv]
 | cons x l ih =>
  intro vs hv;obtain⟨i,x⟩:=x;simp only[kO] at hv;split at hv
  .rename_i v us K T;simp at hv;subst hv;simp[h x v K,ih us T]
  .cases hv
theorem Ol.put{N:Nat}{env:Env}{a:Act}(h:Ol N env a){Μ:Nat}(hd:Μ<N)(v:Value):Ol N ((Μ,v)::env) (a.put (some Μ) v):=by
 refine⟨by simp[Act.put,h.size],?_⟩;intro t u ht;simp only[List.lookup_cons] at ht;by_cases B:t=Μ
 .subst B;simp at ht;subst ht;simp[Act.put,h.size,hd]
 .have hb:(t == Μ)=false:=by simpa using B
  simp only[hb] at ht;simp only[Act.put];rw[Array.getElem?_setIfInBounds_ne (Ne.symm B)];exact h.at_ t u ht
def OL(env B : Env):Prop:=∀t v,B.lookup t=some v->env.lookup t=some v
def Ol.less{N:Nat}{env B : Env}{a:Act}(h:Ol N env a)(hs:OL env B):Ol N B a:=⟨h.size,λt v x=>h.at_ t v (hs t v x)⟩
theorem OL.refl(env:Env):OL env env:=λ_ _ h=>h
def OL.nil(env:Env):OL env []:=λ_ _ h=>by cases h
def OL.cons{env B : Env}{Μ:Nat}{v:Value}(h:env.lookup Μ=some v)(hs:OL env B):OL env ((Μ,v)::B):=by
 intro t u ht;simp only[List.lookup_cons] at ht;by_cases M:t=Μ
 .subst M;simp at ht;subst ht;exact h
 .have hb:(t == Μ)=false:=by simpa using M
  simp only[hb] at ht;exact hs t u ht
abbrev F4:=Exit->Env->Η->Prop
def FW(r:Option Nat):Fence:={ Fence.wide with round:=r }
def mP{r:Option Nat}{n:Nat}{P:Program}{f:FuncId}{args:Array Value}{w:World}{R:Ending->World->Prop}(h:Calls P f args w R):CallsIn (FW r) n P f args w R :=
 (callsIn_wide (n:=n)).2 h
def Qo(ε:List Nat):List Deferred:=ε.map λH8=>{ target:=.collected H8,args:=#[] }
def E5(ε:List Nat):Η:=ε.map λH8=>jC H8 (.deferred (some []))
def JV(r:Option Nat)(χ:Η):Prop:=∀l,r=some l->∃B Y',χ.Perm (jC l (.loop B)::Y')
def At(N:Nat)(env:Env)(L:Η)(θ:Th)(χ:Η)(a:Act)(w:World):Prop:=∃ε,Ol N env a/\a.defers=Qo ε/\Sat θ (L++(E5 ε++χ)) w
def QK(θ:Th)(χ:Η)(N:Nat)(Ξ:F4):Exit->Act->World->Prop:=λe a w=>∃env L,At N env L θ χ a w/\Ξ e env L
def Α(P:Program)(N:Nat)(c:Code)(env:Env)(L:Η)(Ξ:F4):Prop :=
 ∀r θ χ a w,JV r χ->At N env L θ χ a w->c.wpIn (FW r) 0 P (QK θ χ N Ξ) a w
def GO(P:Program)(N:Nat)(B:Array Oper)(l:List Oper)(env:Env)(L:Η)(Ξ:F4):Prop :=
 ∀r θ χ a w,JV r χ->At N env L θ χ a w->wpListIn (FW r) 0 P B (QK θ χ N Ξ) l a w
def F4.seq(n:Env->Η->Prop)(Ξ:F4):F4:=λe=>match e with
 | .normal=>n
 | e=>Ξ e
def F4.inBlock(A:Nat)(Ξ:F4):F4:=λe=>match e with
 | .exit id'=>if id' = A then Ξ .normal else Ξ (.exit id')
 | e=>Ξ e
section rules
variable {P:Program}{N:Nat}{env:Env}{L:Η}{Ξ:F4}
def At.less{θ:Th}{χ:Η}{a:Act}{w:World}{B : Env}{Γ : Η}(h:At N env L θ χ a w)(he:OL env B)(U:F L Γ):At N B Γ θ χ a w :=
 let ⟨ε,ea,hd,s⟩:=h;⟨ε,ea.less he,hd,U θ _ w s⟩
def At.T3{θ:Th}{χ:Η}{a:Act}{w:World}(h:At N env L θ χ a w):Ol N env a:=let ⟨_,ea,_,_⟩:=h;ea
def At.Pk{θ:Th}{χ:Η}{a:Act}{w:World}(h:At N env L θ χ a w):QC env a.eval:=h.T3.Pk
theorem At.put{θ:Th}{χ:Η}{a:Act}{w:World}(h:At N env L θ χ a w){Μ:Nat}(hd:Μ<N)(v:Value):At N ((Μ,v)::env) L θ χ (a.put (some Μ) v) w :=
 let ⟨ε,ea,hm,s⟩:=h;⟨ε,ea.put hd v,hm,s⟩
def Α.Rs{c:Code}{B : Env}{Γ : Η}(h:Α P N c B Γ Ξ)(he:OL env B)(U:F L Γ):Α P N c env L Ξ :=
 λr θ χ a w hr i=>h r θ χ a w hr (i.less he U)
def Α.mono{c:Code}{K' : F4}(h:Α P N c env L Ξ)(hk:∀e env L,Ξ e env L->K' e env L):Α P N c env L K' :=
 λr θ χ a w hr i=>wpIn_mono (h r θ χ a w hr i) λ_ _ _ ⟨B,Γ,x,z⟩=>⟨B,Γ,x,hk _ _ _ z⟩
def At.open_{α:Type}{φ:α->Prop}{Γ : α->Η}(h:∀θ R w,Sat θ (L++R) w->∃x,φ x/\Sat θ (Γ x++R) w){θ:Th}{χ:Η}{a:Act}{w:World}(i:At N env L θ χ a w):∃x,φ x/\At N env (Γ x) θ χ a w :=
 let ⟨ε,ea,hm,s⟩:=i;let ⟨x,O,s'⟩:=h θ _ w s;⟨x,O,ε,ea,hm,s'⟩
def Α.open_{α:Type}{c:Code}{φ:α->Prop}{Γ : α->Η}(h:∀θ R w,Sat θ (L++R) w->∃x,φ x/\Sat θ (Γ x++R) w)
  (k:∀x,φ x->Α P N c env (Γ x) Ξ):Α P N c env L Ξ:=λr θ χ a w hr i =>
 let ⟨x,O,i'⟩:=i.open_ h;k x O r θ χ a w hr i'
def GO.Rs{M:Array Oper}{l:List Oper}{B : Env}{Γ : Η}(h:GO P N M l B Γ Ξ)(he:OL env B)(U:F L Γ):GO P N M l env L Ξ :=
 λr θ χ a w hr i=>h r θ χ a w hr (i.less he U)
def GO.open_{α:Type}{B:Array Oper}{l:List Oper}{φ:α->Prop}{Γ : α->Η}(h:∀θ R w,Sat θ (L++R) w->∃x,φ x/\Sat θ (Γ x++R) w)
  (k:∀x,φ x->GO P N B l env (Γ x) Ξ):GO P N B l env L Ξ:=λr θ χ a w hr i =>
 let ⟨x,O,i'⟩:=i.open_ h;k x O r θ χ a w hr i'
def Α.seq{x y:Code}(h:Α P N x env L (Ξ.seq λB Γ=>Α P N y B Γ Ξ)):Α P N (.seq x y) env L Ξ:=by
 intro r θ χ a w hr i;refine wpIn_seq (wpIn_mono (h r θ χ a w hr i) ?_);rintro e a' cO ⟨B,Γ,i',hk⟩;cases e with
 | normal=>exact hk r θ χ a' cO hr i'
 | exit A=>exact⟨B,Γ,i',hk⟩
 | goto l=>exact⟨B,Γ,i',hk⟩
 | ret=>exact⟨B,Γ,i',hk⟩
 | panic ch=>exact⟨B,Γ,i',hk⟩
 | outgrown=>exact⟨B,Γ,i',hk⟩
def Α.mid{x y:Code}(ε:Env->Η->Prop)(h:Α P N x env L (Ξ.seq ε))(h' : ∀B Γ,ε B Γ->Α P N y B Γ Ξ):Α P N (.seq x y) env L Ξ :=
 Α.seq (h.mono λe env L hk=>by cases e<;>first|exact h' _ _ hk|exact hk)
def Α.block{A:Nat}{c:Code}(h:Α P N c env L (Ξ.inBlock A)):Α P N (.block A c) env L Ξ:=by
 intro r θ χ a w hr i;refine wpIn_block (wpIn_mono (h r θ χ a w hr i) ?_);rintro e a' cO ⟨B,Γ,i',hk⟩;cases e with
 | exit id' =>
  simp only[F4.inBlock] at hk;simp only[Exit.inBlock];split
  .rename_i he;rw[Χ he] at hk;exact⟨B,Γ,i',hk⟩
  .rename_i he;rw[Ν he] at hk;exact⟨B,Γ,i',hk⟩
 | normal=>exact⟨B,Γ,i',hk⟩
 | goto l=>exact⟨B,Γ,i',hk⟩
 | ret=>exact⟨B,Γ,i',hk⟩
 | panic ch=>exact⟨B,Γ,i',hk⟩
 | outgrown=>exact⟨B,Γ,i',hk⟩
def Α.skip(h:Ξ .normal env L):Α P N .skip env L Ξ:=λ_ _ _ _ _ _ i=>wpIn_skip ⟨env,L,i,h⟩
def Α.ret(h:Ξ .ret env L):Α P N .ret env L Ξ:=λ_ _ _ _ _ _ i=>wpIn_ret ⟨env,L,i,h⟩
def Α.exit{A:Nat}(h:Ξ (.exit A) env L):Α P N (.exit A) env L Ξ:=λ_ _ _ _ _ _ i=>wpIn_exit ⟨env,L,i,h⟩
def Α.f9{c:Operand}{x y:Code}(hc:cq env c=some (.bool true))(h:Α P N x env L Ξ):Α P N (.cond c x y) env L Ξ :=
 λr θ χ a w hr i=>wpIn_cond_true (aJ i.Pk hc) (h r θ χ a w hr i)
def Α.f8{c:Operand}{x y:Code}(hc:cq env c=some (.bool false))(h:Α P N y env L Ξ):Α P N (.cond c x y) env L Ξ :=
 λr θ χ a w hr i=>wpIn_cond_false (aJ i.Pk hc) (h r θ χ a w hr i)
def Α.g8{c:Operand}{x y:Code}{b:Bool}(hc:cq env c=some (.bool b))(h:b=true->Α P N x env L Ξ)(h' : b=false->Α P N y env L Ξ):Α P N (.cond c x y) env L Ξ:=by
 cases b with
 | true=>exact Α.f9 hc (h rfl)
 | false=>exact Α.f8 hc (h' rfl)
def Α.region{A:Nat}{l:List Oper}(h:GO P N l.toArray l env L Ξ):Α P N (.region A l.toArray false) env L Ξ :=
 λr θ χ a w hr i=>wpIn_region_lit (h r θ χ a w hr i)
def tI{iL:Fence}{n:Nat}{F5:Exit->Act->World->Prop}{a:Act}{w:World}{c:Code}(G2:Nat->Act->World->Prop)(n₀:Nat)(h₀:G2 n₀ a w)
  (round:∀m a w,G2 m a w->c.wpIn iL n P (Exit.then (λa' cO=>∃n',n' < m/\G2 n' a' cO) F5) a w):(Code.loop c).wpIn iL n P F5 a w:=by
 refine wpIn_loop (λa w=>∃n,G2 n a w) (λa w=>leastOf (λn=>G2 n a w)) ⟨n₀,h₀⟩ ?_;intro a w hI;refine wpIn_mono (round _ a w (leastOf_spec hI).1) ?_;intro e a' cO hq;cases e with
 | normal =>
  obtain⟨n',M,B⟩:=hq;exact show(∃n,G2 n a' cO)/\leastOf (λn=>G2 n a' cO)<leastOf (λn=>G2 n a w) from⟨⟨n',B⟩,Nat.lt_of_le_of_lt ((leastOf_spec ⟨n',B⟩).2 n' B) M⟩
 | exit A=>exact hq
 | goto l=>exact hq
 | ret=>exact hq
 | panic ch=>exact hq
 | outgrown=>exact hq
def Α.loop{α:Type}{c:Code}(Inv:α->Prop)(e:α->Env)(l:α->Η)(m:α->Nat)(Vc:α)(h₀:Inv Vc)(he:OL env (e Vc))(U:F L (l Vc))
  (round:∀x,Inv x->Α P N c (e x) (l x) (Ξ.seq λB Γ=>∃x',Inv x'/\m x' < m x/\OL B (e x')/\F Γ (l x'))):Α P N (.loop c) env L Ξ:=by
 intro r θ χ a w hr i;refine tI (λn a w=>∃x,m x=n/\Inv x/\At N (e x) (l x) θ χ a w) (m Vc) ⟨Vc,rfl,h₀,i.less he U⟩ ?_;rintro n a w ⟨x,rfl,O,i⟩;refine wpIn_mono (round x O r θ χ a w hr i) ?_;rintro ex a' cO ⟨B,Γ,i',hk⟩;cases ex with
 | normal=>obtain⟨x',i1,i2,i3,i4⟩:=hk;exact⟨m x',i2,x',rfl,i1,i'.less i3 i4⟩
 | exit A=>exact⟨B,Γ,i',hk⟩
 | goto l=>exact⟨B,Γ,i',hk⟩
 | ret=>exact⟨B,Γ,i',hk⟩
 | panic ch=>exact⟨B,Γ,i',hk⟩
 | outgrown=>exact⟨B,Γ,i',hk⟩
def GO.nil{B:Array Oper}(h:Ξ .normal env L):GO P N B [] env L Ξ:=λ_ _ _ _ _ _ i=>wpListIn_nil ⟨env,L,i,h⟩
def Ev(P:Program)(L:Η)(env:Env)(op:Op)(ty:TypeId)(v:Value):Prop :=
 ∀θ R ρ w o,QC env ρ->Sat θ (L++R) w->o.op=op->o.type=ty->(execOp ρ o).run P w=.ok (.value v) w
def Ev.mk{op:Op}{ty:TypeId}{v:Value}(h:∀θ R ρ w,QC env ρ->Sat θ (L++R) w->∀B pos af g,(execOp ρ ⟨B,op,ty,pos,af,g⟩).run P w=.ok (.value v) w):Ev P L env op ty v:=by
 rintro θ R ρ w ⟨B,M,a2,pos,af,g⟩ ha s rfl rfl;exact h θ R ρ w ha s B pos af g
def Ev.any{op:Op}{ty:TypeId}{v:Value}(h:Ev P [] env op ty v):Ev P L env op ty v :=
 λθ R ρ w o ha s K T=>h θ (L++R) ρ w o ha s K T
def Ef(P:Program)(L:Η)(env:Env)(op:Op)(ty:TypeId)(post:Value->Η->Prop):Prop :=
 ∀θ R a w o next F5,QC env a.eval->Sat θ (L++R) w->o.op=op->o.type=ty->(∀v Γ cO,post v Γ->Sat θ (Γ++R) cO->next (a.put o.dst v) cO)->Oper.wp P o a w next F5
def Ef.val{op:Op}{ty:TypeId}{post:Value->Η->Prop}(h:∀θ R ρ w,QC env ρ->Sat θ (L++R) w->∀B pos af g,∃v cO Γ,(execOp ρ ⟨B,op,ty,pos,af,g⟩).run P w=.ok (.value v) cO/\post v Γ/\Sat θ (Γ++R) cO):Ef P L env op ty post:=by
 rintro θ R a w ⟨B,M,a2,pos,af,g⟩ next F5 ha s rfl rfl hn
 obtain⟨v,cO,Γ,K,T,h3⟩:=h θ R a.eval w ha s B pos af g;rw[Oper.wp,K,Oper.upon_value];exact hn v Γ cO T h3
def Ef.skip{op:Op}{ty:TypeId}{post:Value->Η->Prop}(h:∀θ R ρ w,QC env ρ->Sat θ (L++R) w->∀B pos af g,∃cO Γ,(execOp ρ ⟨B,op,ty,pos,af,g⟩).run P w=.ok .skip cO/\post undef Γ/\Sat θ (Γ++R) cO):Ef P L env op ty post:=by
 rintro θ R a w ⟨B,M,a2,pos,af,g⟩ next F5 ha s rfl rfl hn
 obtain⟨cO,Γ,K,T,h3⟩:=h θ R a.eval w ha s B pos af g;rw[Oper.wp,K,Oper.upon_skip];exact hn undef Γ cO T h3
def Ev.ef{op:Op}{ty:TypeId}{v:Value}(h:Ev P L env op ty v):Ef P L env op ty (λu Γ=>u=v/\Γ = L):=by
 intro θ R a w o next F5 ha s K T hn
 rw[Oper.wp,h θ R a.eval w o ha s K T,Oper.upon_value];exact hn v L w ⟨rfl,rfl⟩ s
def T4(a:Act)(Μ:Option Tmp)(v:Value):(a.put Μ v).defers=a.defers:=by cases Μ<;>rfl
def Ef.Tf{op:Op}{ty:TypeId}{post:Value->Η->Prop}(he:Ef P L env op ty post){θ:Th}{R:Η}{a:Act}{w:World}(ha:QC env a.eval)(s:Sat θ (L++R) w):∀c,op≠.defer c:=by
 rintro c rfl;have h := he θ R a w ⟨none, .defer c, ty, "", #[], none⟩ (λa' _ => a'.defers = a.defers) (λ_ _ _ => False) ha s rfl rfl (λv Γ cO _ _ => T4 _ _ _)
 unfold Oper.wp at h;simp only[execOp] at h;rw[Sem.run_bind] at h;cases hr:(resolve a.eval c ty).run P w with
 | ok Μ cO =>
  rw[hr] at h;simp only[Result.andThen_ok,Sem.run_pure,Oper.upon,Act.put] at h;exact hD (congrArg List.length h) (by simp)
 | halt x cO =>
  rw[hr] at h;cases x<;>simp[Result.andThen,Oper.upon] at h
def mu{r:Option Nat}{o:Oper}{a:Act}{w:World}{next:Act->World->Prop}{F5:Exit->Act->World->Prop}(hd:∀c,o.op≠.defer c)(h:o.wp P a w next F5):o.wpIn (FW r) 0 P a w next F5:=by
 refine⟨λ_ _=>trivial,?_⟩;rw[Oper.semAt_eq _ _ _ hd];unfold Oper.wp at h;generalize (execOp a.eval o).run P w=x at h;cases x with
 | ok y cO =>
  cases y<;>simp only[Oper.upon] at h<;>simp only[Oper.uponIn]
  all_goals first
   | exact h
   | exact h.elim
   | exact⟨(λh=>by cases h),mP (by exact h)⟩
   | exact⟨(λh=>by cases h),λc cs _=>(h c cs).imp λv hv=>hv.imp λB hw=>⟨hw.1,stepsIn_wide.2 hw.2⟩⟩
 | halt y cO=>cases y<;>simp only[Oper.upon] at h<;>simp only[Oper.uponIn]<;>first|exact h|exact h.elim
def GO.ef{B:Array Oper}{cN:List Oper}{Μ:Nat}{op:Op}{ty:TypeId}{pos:String}{af:Array Edge}{post:Value->Η->Prop}(he:Ef P L env op ty post)(hd:Μ<N)
  (h:∀v Γ,post v Γ->GO P N B cN ((Μ,v)::env) Γ Ξ):GO P N B (⟨some Μ,op,ty,pos,af,none⟩::cN) env L Ξ:=by
 intro r θ χ a w hr i;refine wpListIn_plain rfl λK' hK=>?_;obtain⟨ε,ea,hm,s⟩:=i;exact mu (he.Tf ea.Pk s) (he θ _ a w _ K' _ ea.Pk s rfl rfl λv Γ cO hp s'=>hK _ _ (h v Γ hp r θ χ _ _ hr ⟨ε,ea.put hd _,by rw[T4];exact hm,s'⟩))
def GO.NH{B:Array Oper}{cN:List Oper}{op:Op}{ty:TypeId}{pos:String}{af:Array Edge}{post:Value->Η->Prop}(he:Ef P L env op ty post)
  (h:∀v Γ,post v Γ->GO P N B cN env Γ Ξ):GO P N B (⟨none,op,ty,pos,af,none⟩::cN) env L Ξ:=by
 intro r θ χ a w hr i;refine wpListIn_plain rfl λK' hK=>?_;obtain⟨ε,ea,hm,s⟩:=i;exact mu (he.Tf ea.Pk s) (he θ _ a w _ K' _ ea.Pk s rfl rfl λv Γ cO hp s'=>hK _ _ (h v Γ hp r θ χ _ _ hr ⟨ε,ea,hm,s'⟩))
def GO.ev{B:Array Oper}{cN:List Oper}{Μ:Nat}{op:Op}{ty:TypeId}{pos:String}{af:Array Edge}{v:Value}(he:Ev P L env op ty v)(hd:Μ<N)
  (h:GO P N B cN ((Μ,v)::env) L Ξ):GO P N B (⟨some Μ,op,ty,pos,af,none⟩::cN) env L Ξ :=
 GO.ef he.ef hd (by rintro _ _⟨rfl,rfl⟩;exact h)
def GO.d9{B:Array Oper}{cN:List Oper}{M:Option Tmp}{op:Op}{ty:TypeId}{pos:String}{af:Array Edge}{j t:Nat}{b:Bool}
  (hj:(B[j]?).bind (·.dst)=some t) (ht:env.lookup t=some (.bool b))
  (h:GO P N B (⟨M,op,ty,pos,af,none⟩::cN) env L Ξ):GO P N B (⟨M,op,ty,pos,af,some (j,b)⟩::cN) env L Ξ:=by
 intro r θ χ a w hr i;have K:=h r θ χ a w hr i
 have Y:yielded B a.tmps j=some b:=by
  unfold yielded;rw[hj];simp[i.T3.at_ t _ ht]
 simp only[wpListIn,Region.wanted,Y,beq_self_eq_true,if_true] at K ⊢;exact K
def GO.f5{B:Array Oper}{cN:List Oper}{Μ:Nat}{op:Op}{ty:TypeId}{pos:String}{af:Array Edge}{j t:Nat}{b c:Bool}
  (hj:(B[j]?).bind (·.dst)=some t) (ht:env.lookup t=some (.bool c)) (hb:(c == b)=false) (hd:Μ<N)
  (h:GO P N B cN ((Μ,undef)::env) L Ξ):GO P N B (⟨some Μ,op,ty,pos,af,some (j,b)⟩::cN) env L Ξ:=by
 intro r θ χ a w hr i;have K:=h r θ χ (a.put (some Μ) undef) w hr (i.put hd _)
 have Y:yielded B a.tmps j=some c:=by
  unfold yielded;rw[hj];simp[i.T3.at_ t _ ht]
 have M:(some c == some b)=false:=by cases c<;>cases b<;>simp_all
 simp only[wpListIn,Region.wanted,Y,M] at K ⊢;exact⟨λ_ _=>trivial,K⟩
def GO.c9{B:Array Oper}{cN:List Oper}{Μ:Nat}{op:Op}{ty:TypeId}{pos:String}{af:Array Edge}{j t:Nat}{b:Bool}
  (hj:(B[j]?).bind (·.dst)=some t) (ht:env.lookup t=some undef) (hd:Μ<N)
  (h:GO P N B cN ((Μ,undef)::env) L Ξ):GO P N B (⟨some Μ,op,ty,pos,af,some (j,b)⟩::cN) env L Ξ:=by
 intro r θ χ a w hr i;have K:=h r θ χ (a.put (some Μ) undef) w hr (i.put hd _)
 have Y:yielded B a.tmps j=none:=by
  unfold yielded;rw[hj];simp[i.T3.at_ t _ ht,undef]
 simp only[wpListIn,Region.wanted,Y] at K ⊢;exact⟨λ_ _=>trivial,K⟩
end rules
def Enters(P:Program)(f:FuncId):Prop:=∀args w,(callFunc f args).run P w=.ok (.enter f args) w
structure Τ (P:Program) (f:FuncId) (args:Array Value) (L:Η) (post:Value->Η->Prop):Prop where
 enters:Enters P f
 calls:∀θ R w,Sat θ (L++R) w->Calls P f args w λe cO=>∃v Γ,e=.returned v/\post v Γ/\Sat θ (Γ++R) cO
def Τ.mono{P:Program}{f:FuncId}{args:Array Value}{L:Η}{post B : Value->Η->Prop}(h:Τ P f args L post)(hp:∀v L,post v L->B v L):Τ P f args L B :=
 ⟨h.enters,λθ R w s=>(h.calls θ R w s).mono λ_ _ ⟨v,Γ,a,b,c⟩=>⟨v,Γ,a,hp _ _ b,c⟩⟩
def Τ.pre{P:Program}{f:FuncId}{args:Array Value}{L Γ : Η}{post:Value->Η->Prop}(h:Τ P f args Γ post)(U:F L Γ):Τ P f args L post :=
 ⟨h.enters,λθ R w s=>h.calls θ R w (U θ R w s)⟩
def Pa(args:τ)(k:Nat):Env:=match args with
 | []=>[]
 | v::r=>(k,v)::Pa r (k+1)
def sA(args:τ)(k t:Nat):(Pa args k).lookup t=if k<=t then args[t - k]? else none:=by
 induction args generalizing k with
 | nil=>simp[Pa]
 | cons v r ih =>
  simp only[Pa,List.lookup_cons];by_cases h:t=k
  .subst h;simp
  .have hb:(t == k)=false:=by simpa using h
   simp only[hb,ih];by_cases hk:k+1<=t
   .rw[Χ hk,Χ (by omega),show t - k=(t - (k+1))+1 by omega];simp
   .rw[Ν hk,Ν (by omega)]
def UD(env:Env):List ResultVar->Option (τ)
 | []=>some []
 | .tmp t::r=>match env.lookup t,UD env r with
  | some v,some vs=>some (v::vs)
  | _,_=>none
 | .cell _ _::_=>none
def Pt:τ->Value
 | [v]=>v
 | vs=>.tuple vs.toArray
def Ky{P:Program}{N:Nat}{env:Env}{a:Act}(h:Ol N env a)(w:World)(g:ResultVar->Sem Value)(hg:∀t,g (ResultVar.tmp t)=Sem.pure (a.tmps.getD t undef)) :
  ∀(rs:List ResultVar) (vs:τ),UD env rs=some vs->(rs.mapM g).run P w=Result.ok vs w:=by
 intro rs;induction rs with
 | nil=>intro vs hv;simp[UD] at hv;subst hv;simp
 | cons r rs ih =>
  intro vs hv;cases r with
  | cell x t=>simp[UD] at hv
  | tmp t =>
   simp only[UD] at hv;split at hv
   .rename_i v ws K T;simp at hv;subst hv;have h3:=h.at_ t v K;simp[List.mapM_cons,ih ws T,hg,h3]
   .cases hv
def C7(P:Program)(N:Nat)(env:Env)(L:Η)(rs:List ResultVar)(vs:τ):Prop :=
 ∀θ R a w,Ol N env a->Sat θ (L++R) w->∀g:ResultVar->Sem Value,(∀t,g (ResultVar.tmp t)=Sem.pure (a.tmps.getD t undef))->(∀x t,g (ResultVar.cell x t)=(do loadVar t (<- asAddr (a.tmps.getD x undef))))->(rs.mapM g).run P w=Result.ok vs w
def C7.tmps{P:Program}{N:Nat}{env:Env}{L:Η}{rs:List ResultVar}{vs:τ}(h:UD env rs=some vs):C7 P N env L rs vs:=λ_ _ _ w ea _ g hg _=>Ky ea w g hg rs vs h
def C7.nil{P:Program}{N:Nat}{env:Env}{L:Η}:C7 P N env L [] []:=C7.tmps rfl
def C7.tmp{P:Program}{N:Nat}{env:Env}{L:Η}{rs:List ResultVar}{vs:τ}{t:Nat}{v:Value}(h:env.lookup t=some v)(hr:C7 P N env L rs vs):C7 P N env L (.tmp t::rs) (v::vs):=by
 intro θ R a w ea s g K T;have h3:=ea.at_ t v h;simp[List.mapM_cons,hr θ R a w ea s g K T,K,h3]
def ue{P:Program}{N:Nat}{env:Env}{L R:Η}{θ:Th}{a:Act}{fn:Func}(h:Ol N env a){w:World}(s:Sat θ (L++R) w){rs:List ResultVar}{vs:τ}(hf:fn.results=rs.toArray)(hv:C7 P N env L rs vs) :
  (results fn a.tmps).run P w=.ok (Pt vs) w:=by
 unfold results;rw[hf];simp only[List.mapM_toArray,Sem.run_bind,Sem.run_map];rw[hv θ R a w h s _ (λt=>rfl) (λx t=>rfl)];simp only[Result.andThen_ok,Sem.run_pure];congr 1;match vs with
 | []=>rfl
 | [v]=>rfl
 | v::u::r=>simp[Pt]
def Ends(P:Program)(N:Nat)(rs:List ResultVar)(post:Value->Η->Prop):F4:=λe env L=>(e=.ret\/e=.normal)/\∀θ R w,Sat θ (L++R) w->∃vs Γ,C7 P N env L rs vs/\Sat θ (Γ++R) w/\post (Pt vs) Γ
def qL{P:Program}{fn:Func}{tmps:Array Value}{R:Ending->World->Prop}{θ:Th}{χ:Η}:∀(ε:List Nat) (w:World),Sat θ (E5 ε++χ) w->(∀cO,Sat θ χ cO->LeavesIn Fence.wide 0 P fn tmps R [] .returning cO)->LeavesInM Fence.wide 0 P fn tmps R (Qo ε) .returning w
 | [],w,s,h=>h w s
 | H8::ε,w,s,h=>by
  have s0:Sat θ (jC H8 (.deferred (some []))::(E5 ε++χ)) w:=s;have hb:=s0.Nr;refine⟨by simp,.inl ⟨H8,{ w with heap:=w.heap.setIfInBounds H8 (.deferred none) },rfl,?_,?_⟩⟩
  .simp[Instr.takeDeferred,getObj,setObj,Sem.run,hb,bind,Sem.bind,pure]
  .have B:H8<w.heap.size:=(Array.getElem?_eq_some_iff.1 hb).1
   have s1:Sat θ (jC H8 (.deferred none)::(E5 ε++χ)) { w with heap:=w.heap.setIfInBounds H8 (.deferred none) }:=by
    refine s0.update ⟨s.1.tape,s.1.os,s.1.output,s.1.drawn⟩ (by simp[B]) ?_;intro k x hk O;simp only[Array.getElem?_setIfInBounds];rw[Ν (λe=>hk e.symm)];exact O
   exact qL ε _ s1.tail h
def Τ.body{P:Program}{f:FuncId}{fn:Func}{c:Code}{args:τ}{L:Η}{post:Value->Η->Prop}{rs:List ResultVar}(N:Nat)
  (he:Enters P f) (hf:P.funcs[f]? = some fn) (hb:fn.body=some c) (hr:fn.results=rs.toArray) (hN:fn.ntmps=N) (a9 : args.length<=N)
  (h:Α P N c (Pa args 0) L (Ends P N rs post)):Τ P f args.toArray L post:=by
 refine⟨he,λθ R w s=>(callsIn_wide (n:=0)).1 (callsIn_of_wp_marks hf hb trivial ?_)⟩
 have ea:Ol N (Pa args 0) { tmps:=args.toArray++Array.replicate (fn.ntmps - args.toArray.size) undef,defers:=[] }:=by
  refine⟨by simp[hN];omega,?_⟩;intro t v ht;rw[sA] at ht;simp at ht;have a6:t<args.length:=(List.getElem?_eq_some_iff.1 ht).1;rw[Array.getElem?_append_left (by simpa using a6)];simpa using ht
 refine wpIn_mono (h none θ R _ w (λl U=>by cases U) ⟨[],ea,rfl,s⟩) ?_;rintro e a' cO ⟨a5,Γ,⟨ε,a4,hm,s'⟩,hex,a2⟩
 have B:LeavesInM Fence.wide 0 P fn a'.tmps (λe cO=>∃v Γ,e=.returned v/\post v Γ/\Sat θ (Γ++R) cO) a'.defers .returning cO:=by
  rw[hm]
  have s1:Sat θ (E5 ε++(Γ++R)) cO:=s'.perm (by
   rw[<-List.append_assoc,<-List.append_assoc];exact List.perm_append_comm.append_right R)
  refine qL ε cO s1 λw₂ s₂=>?_;obtain⟨vs,RM,a7,a3,M⟩:=a2 θ R w₂ s₂;exact⟨_,ue (P:=P) a4 s₂ hr a7,_,RM,rfl,M,a3⟩
 rcases hex with rfl|rfl
 .exact B
 .exact B
def Ef.call{P:Program}{env:Env}{L R' : Η}{f:FuncId}{I:Array Operand}{ats:Array TypeId}{ty:TypeId}{vs:τ}{pre:Η}{post:Value->Η->Prop}
  (c:Τ P f vs.toArray pre post) (hv:fD env I.toList=some vs) (hL:F L (pre++R')) :
  Ef P L env (.call { callee:=.value (.func f),args:=I,argTypes:=ats }) ty (λv Γ=>∃L₁,post v L₁/\Γ = L₁++R'):=by
 rintro θ R a w ⟨a2,a4,a3,pos,af,g⟩ next F5 ha s rfl rfl hn
 have B:I.map a.eval=vs.toArray:=by
  apply Array.ext';simpa using ha.list I.toList vs hv
 have M:(execOp a.eval ⟨a2,.call { callee:=.value (.func f),args:=I,argTypes:=ats },a3,pos,af,g⟩).run P w=.ok (.enter f vs.toArray) w:=by
  simp[execOp,resolve,Deferred.ofValue,Act.eval,invoke,B];exact c.enters _ _
 rw[Oper.wp,M,Oper.upon_enter];refine(c.calls θ (R'++R) w (by rw[<-List.append_assoc];exact hL θ R w s)).mono ?_;rintro e cO ⟨v,Γ,rfl,hp,s'⟩;exact hn v _ cO ⟨Γ,hp,rfl⟩ (by rw[List.append_assoc];exact s')
def dB(p:Prop)[Decidable p]:Bool:=decide p
theorem dH(p:Prop)[Decidable p]:dB p=decide p:=rfl
attribute [irreducible] dB
theorem bN{p:Prop}[Decidable p](h:p):dB p=true:=by rw[dH];exact decide_eq_true h
theorem bB{p:Prop}[Decidable p](h:¬p):dB p=false:=by rw[dH];exact decide_eq_false h
def CB(b:Bool)(p q:Prop):Prop:=(b=true->p)/\(b=false->q)
def CB.tt{p q:Prop}(h:p):CB true p q:=⟨λ_=>h,λh=>by cases h⟩
def CB.ff{p q:Prop}(h:q):CB false p q:=⟨λh=>(by cases h),λ_=>h⟩
def CB.dec{φ:Prop}[Decidable φ]{p q:Prop}(h:φ->p)(h' : ¬φ->q):CB (dB φ) p q:=⟨λe=>h (of_decide_eq_true (by rw[<-dH];exact e)),λe=>h' (of_decide_eq_false (by rw[<-dH];exact e))⟩
def CB.pos{φ:Prop}[Decidable φ]{p q:Prop}(hφ:φ)(h:p):CB (dB φ) p q:=CB.dec (λ_=>h) (λe=>hD hφ e)
def CB.neg{φ:Prop}[Decidable φ]{p q:Prop}(hφ:¬φ)(h:q):CB (dB φ) p q:=CB.dec (λe=>hD e hφ) (λ_=>h)
def CB.bool{b:Bool}{p q:Prop}(h:b=true->p)(h' : b=false->q):CB b p q:=⟨h,h'⟩
def GB(b:Bool)(p p' q q' : Prop):Prop:=(b=true->p\/p')/\(b=false->q\/q')
def GB.tt{p p' q q' : Prop}(h:p):GB true p p' q q':=⟨λ_=>.inl h,λh=>by cases h⟩
def GB.ff{p p' q q' : Prop}(h:q):GB false p p' q q':=⟨λh=>(by cases h),λ_=>.inl h⟩
def GB.dec{φ:Prop}[Decidable φ]{p p' q q' : Prop}(h:φ->p')(h' : ¬φ->q'):GB (dB φ) p p' q q':=⟨λe=>.inr (h (of_decide_eq_true (by rw[<-dH];exact e))),λe=>.inr (h' (of_decide_eq_false (by rw[<-dH];exact e)))⟩
def GB.pos{φ:Prop}[Decidable φ]{p p' q q' : Prop}(hφ:φ)(h:p'):GB (dB φ) p p' q q':=GB.dec (λ_=>h) (λe=>hD hφ e)
def GB.neg{φ:Prop}[Decidable φ]{p p' q q' : Prop}(hφ:¬φ)(h:q'):GB (dB φ) p p' q q':=GB.dec (λe=>hD e hφ) (λ_=>h)
def GB.bool{b:Bool}{p p' q q' : Prop}(h:b=true->p')(h' : b=false->q'):GB b p p' q q':=⟨λe=>.inr (h e),λe=>.inr (h' e)⟩
def Α.cond{P:Program}{N:Nat}{env:Env}{L:Η}{Ξ:F4}{c:Operand}{x y:Code}{b:Bool}(hc:cq env c=some (.bool b))(h:CB b (Α P N x env L Ξ) (Α P N y env L Ξ)):Α P N (.cond c x y) env L Ξ :=
 Α.g8 hc h.1 h.2
def GO.f7{P:Program}{N:Nat}{env:Env}{L:Η}{Ξ:F4}{B:Array Oper}{cN:List Oper}{Μ:Nat}{op:Op}{ty:TypeId}{pos:String}{af:Array Edge}{j t:Nat}{c:Bool}
  (hj:(B[j]?).bind (·.dst)=some t) (ht:env.lookup t=some (.bool c)) (hd:Μ<N)
  (h:GB c (GO P N B (⟨some Μ,op,ty,pos,af,none⟩::cN) env L Ξ) (GO P N B (⟨some Μ,op,ty,pos,af,none⟩::cN) ((t,.bool true)::env) L Ξ) (GO P N B cN ((Μ,undef)::env) L Ξ) (GO P N B cN ((Μ,undef)::(t,.bool false)::env) L Ξ)) :
  GO P N B (⟨some Μ,op,ty,pos,af,some (j,true)⟩::cN) env L Ξ:=by
 cases c with
 | true=>exact GO.d9 hj ht ((h.1 rfl).elim id λh=>h.Rs (OL.cons ht (OL.refl _)) (F.refl _))
 | false=>exact GO.f5 hj ht rfl hd ((h.2 rfl).elim id λh=>h.Rs (by
   intro u v hu;simp only[List.lookup_cons] at hu ⊢;split
   .rename_i e;simp only[e] at hu;exact hu
   .rename_i e;simp only[e] at hu;split at hu
    .rename_i e2;rw[beq_iff_eq] at e2;subst e2;rw[ht];exact hu
    .exact hu) (F.refl _))
def GO.f8{P:Program}{N:Nat}{env:Env}{L:Η}{Ξ:F4}{B:Array Oper}{cN:List Oper}{Μ:Nat}{op:Op}{ty:TypeId}{pos:String}{af:Array Edge}{j t:Nat}{c:Bool}
  (hj:(B[j]?).bind (·.dst)=some t) (ht:env.lookup t=some (.bool c)) (hd:Μ<N)
  (h:GB c (GO P N B cN ((Μ,undef)::env) L Ξ) (GO P N B cN ((Μ,undef)::(t,.bool true)::env) L Ξ) (GO P N B (⟨some Μ,op,ty,pos,af,none⟩::cN) env L Ξ) (GO P N B (⟨some Μ,op,ty,pos,af,none⟩::cN) ((t,.bool false)::env) L Ξ)) :
  GO P N B (⟨some Μ,op,ty,pos,af,some (j,false)⟩::cN) env L Ξ:=by
 cases c with
 | false=>exact GO.d9 hj ht ((h.2 rfl).elim id λh=>h.Rs (OL.cons ht (OL.refl _)) (F.refl _))
 | true=>exact GO.f5 hj ht rfl hd ((h.1 rfl).elim id λh=>h.Rs (by
   intro u v hu;simp only[List.lookup_cons] at hu ⊢;split
   .rename_i e;simp only[e] at hu;exact hu
   .rename_i e;simp only[e] at hu;split at hu
    .rename_i e2;rw[beq_iff_eq] at e2;subst e2;rw[ht];exact hu
    .exact hu) (F.refl _))
section kx
variable {P:Program}{N:Nat}{env:Env}{L:Η}{Ξ:F4}{n:Env->Η->Prop}
def KX.f5{A:Nat}(h:Ξ (.exit A) env L):F4.seq n Ξ (.exit A) env L:=h
def KX.f9(h:Ξ .ret env L):F4.seq n Ξ .ret env L:=h
def KX.d7(h:n env L):F4.seq n Ξ .normal env L:=h
def KX.f7{y:Code}(h:Α P N y env L Ξ):F4.seq (λB Γ=>Α P N y B Γ Ξ) Ξ .normal env L:=h
def KX.d8{A:Nat}(h:Ξ .normal env L):F4.inBlock A Ξ (.exit A) env L:=by simpa [F4.inBlock] using h
def KX.c9{A B : Nat}(M:B≠A)(h:Ξ (.exit B) env L):F4.inBlock A Ξ (.exit B) env L:=by simpa [F4.inBlock,M] using h
def KX.d9{A:Nat}(h:Ξ .ret env L):F4.inBlock A Ξ .ret env L:=h
theorem KX.c7{A:Nat}(h:Ξ .normal env L):F4.inBlock A Ξ .normal env L:=h
theorem KX.a8{rs:List ResultVar}{post:Value->Η->Prop}{vs:τ}{Γ : Η}(K:C7 P N env L rs vs)(T:F L Γ)(h3:post (Pt vs) Γ):Ends P N rs post .ret env L:=⟨.inl rfl,λθ R w s=>⟨vs,Γ,K,T θ R w s,h3⟩⟩
def KX.c8{rs:List ResultVar}{post:Value->Η->Prop}{vs:τ}{Γ : Η}(K:C7 P N env L rs vs)(T:F L Γ)(h3:post (Pt vs) Γ):Ends P N rs post .normal env L:=⟨.inr rfl,λθ R w s=>⟨vs,Γ,K,T θ R w s,h3⟩⟩
def KX.f8{rs:List ResultVar}{post:Value->Η->Prop}{e:Exit}{φ:Prop}(he:e=.ret\/e=.normal)(h:∀θ R w,Sat θ (L++R) w->φ)(k:φ->Ends P N rs post e env L):Ends P N rs post e env L:=⟨he,λθ R w s=>(k (h θ R w s)).2 θ R w s⟩
def KX.cL{rs:List ResultVar}{post:Value->Η->Prop}{vs:τ}{Γ : Η}(B:C7 P N env L rs vs)(M:F L Γ)(h3:Ends P N rs post .ret env L):Ends P N rs post .ret env L:=h3
