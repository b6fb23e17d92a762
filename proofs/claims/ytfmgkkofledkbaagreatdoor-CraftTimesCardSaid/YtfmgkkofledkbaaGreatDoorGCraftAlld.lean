/- Lemmas and contracts of functions, in the order: U, V21, V22, V23, Q0, L1, Q1, Q2, Q3. -/
import Derived.Test.YtfmgkkofledkbaaGreatDoorGCraftAllb
import Derived.Test.YtfmgkkofledkbaaGreatDoorSCraftAllT
import Derived.KernelRfl
import Derived.Sort.Grow
import Derived.Lib.SlicesCompact
set_option linter.all false
set_option maxHeartbeats 1000000
namespace Go.Proofs.YtfmgkkofledkbaaGreatDoor
open Go.V
instance:TyIS Tryz.prog 158 2:=TyIS.of ah ah ah ah ah
instance:TyIS Tryz.prog 161 3:=TyIS.of ah ah ah ah ah
instance:TyIS Tryz.prog 211 3:=TyIS.of ah ah ah ah ah
instance:TyArr Tryz.prog 398 128 5 1:=⟨by kernel_rfl,by kernel_rfl⟩
instance:TyG Tryz.prog 121 3 34 (.slice none 0 0):=⟨by kernel_rfl,by kernel_rfl⟩
instance:KeyT Tryz.prog 3 kvI:=keyI
instance:TyG Tryz.prog 146 158 135 (.slice none 0 0):=⟨by kernel_rfl,by kernel_rfl⟩
instance:KeyT Tryz.prog 158 kvP:=keyP
instance:TyG Tryz.prog 147 3 3 (.int .i64 0):=⟨by kernel_rfl,by kernel_rfl⟩
instance:TyG Tryz.prog 150 3 135 (.slice none 0 0):=⟨by kernel_rfl,by kernel_rfl⟩
instance:TyG Tryz.prog 344 9 4 (.bool false):=⟨by kernel_rfl,by kernel_rfl⟩
instance:KeyT Tryz.prog 9 kvS:=keyS
end Go.Proofs.YtfmgkkofledkbaaGreatDoor
namespace Go.V
section
variable {P:Program} {N:Nat} {env:Env} {L:List HP} {ty:TypeId} {v:Value}
end
end Go.V
namespace Go.V
open Go.Sort
theorem tA {d:List Int} {cur:Array Value} {m:Nat} (hm:m≤d.length) (hc:d.length≤cur.size):(putCells (Value.int .i64) 0 d.toArray cur).toList.take (m*1)=(d.take m).flatMap (encZ .i64):=by
 rw [jP,Nat.mul_one]
 apply List.ext_getElem?
 intro i
 by_cases hi:i<m
 ·have h1:i<d.length:=ab
  have h2:i<cur.size:=ab
  rw [List.getElem?_take,if_pos hi]
  simp [putCells,h1,h2,hi]
 ·rw [List.getElem?_take,if_neg hi]
  simp
  omega
theorem Sat.putRow {θ:Th} {g E:Nat} {cur:Array Value} {R:List HP} {w:World} {d:Array Int} {n:Nat} {os:Array Obj} (s:Sat θ (own g (.cells cur E (0,0))::R) w) :
  Sat θ (own g (.cells (putCells (Value.int .i64) 0 d cur) E (0,0))::R) (grow (Sort.putRow (Value.int .i64) (Sort.ahead w n) g 0 d) os):=by
 have hb:=s.own_heap
 have hlt:g<w.heap.size:=(Array.getElem?_eq_some_iff.1 hb).1
 refine s.update ⟨s.1.tape,s.1.os,s.1.output,Nat.le_trans s.1.drawn (Nat.le_add_right _ _)⟩ ?_ ?_
 ·show (w.heap.modify g (onCells (putCells (Value.int .i64) 0 d))++os)[g]? = _
  rw [Array.getElem?_append_left (by simpa using hlt),Array.getElem?_modify,if_pos rfl,hb]
  rfl
 ·intro k x hk hx
  have hklt:k<w.heap.size:=(Array.getElem?_eq_some_iff.1 hx).1
  show (w.heap.modify g (onCells (putCells (Value.int .i64) 0 d))++os)[k]? = _
  rw [Array.getElem?_append_left (by simpa using hklt),Array.getElem?_modify,if_neg (fun e=>hk e.symm),hx]
theorem CJ {g E:Nat} {cur:Array Value} {xs:List Int} {w:World} (hb:w.heap[g]? = some (.cells cur E (0,0))) (ht:cur.toList.take (xs.length*1)=xs.flatMap (encZ .i64)):Holds (Value.int .i64) w g 0 xs.toArray:=by
 intro j hj
 have hj' : j<xs.length:=by simpa using hj
 refine ⟨?_,by simp [World.frozen?,hb]⟩
 rw [Nat.zero_add,cS hb]
 have h:(cur.toList.take (xs.length*1))[j]? = (xs.flatMap (encZ .i64))[j]?:=by rw [ht]
 rw [jP,List.getElem?_take,if_pos ab] at h
 simp [hj'] at h
 simp [hj',h]
theorem Tri.d8 {P:Program} {f:FuncId} {E cap:Nat} {ad:Option Addr} {xs ys:List Int} {L:List HP} (he:Enters P f) (hlen:ys.length=xs.length) (hsz:xs.length<4611686018427387904)
  (h0:xs.length=0→∀ w,Calls P f #[.slice ad 0 cap] w fun e w'=>e=.returned (.tuple #[])∧w' = w)
  (h1:∀ blk w,Holds (Value.int .i64) w blk 0 xs.toArray→blk<w.heap.size→Calls P f #[.slice (some ⟨blk,0,none⟩) xs.length cap] w fun e w'=>e=.returned (.tuple #[])∧∃ n os,w' = grow (Sort.putRow (Value.int .i64) (Sort.ahead w n) blk 0 ys.toArray) os) :
  Tri P f #[.slice ad xs.length cap] (osl (encZ .i64) 1 E ad cap xs::L) (fun v L'=>v=.tuple #[]∧L' = osl (encZ .i64) 1 E ad cap ys::L):=by
 refine ⟨he,fun θ R w s=>?_⟩
 by_cases hx:xs.length=0
 ·have e1:xs=[]:=List.eq_nil_of_length_eq_zero hx
  have e2:ys=[]:=List.eq_nil_of_length_eq_zero ab
  subst e1 e2
  refine (h0 rfl w).mono ?_
  rintro e w' ⟨rfl,rfl⟩
  exact ⟨_,_,rfl,⟨rfl,rfl⟩,s⟩
 obtain ⟨a1,a2,a3,a4⟩:=Sat.osl_parts (L:=L++R) s
 rcases a4 with ⟨rfl,rfl⟩|⟨g,cur,rfl,b1,b2,b3⟩
 ·omega
 have hb:=b3.own_heap
 refine (h1 g w (CJ hb b2) (Array.getElem?_eq_some_iff.1 hb).1).mono ?_
 rintro e w' ⟨rfl,n,os,rfl⟩
 refine ⟨_,_,rfl,⟨rfl,rfl⟩,?_⟩
 refine Sat.osl_mk (L:=L++R) (Sat.putRow b3) (fun _ _=>rfl) ab a3 ?_ ?_
 ·simp [putCells,b1]
 ·rw [tA (Nat.le_refl _) (by rw [b1];omega),List.take_length]
end Go.V
namespace Go.V
section fv
variable {P:Program} {N:Nat} {env:Env} {L:List HP} {K:Post} {ty:TypeId}
def EF (P:Program) (gf:FuncId) (cap:List Value) (vals:List (List Value)) (Lg Lx:List HP):Prop :=
 ∀ (l:Nat) (J Jx:Nat→HP),(∀ k (hk:k<vals.length),YTri P l vals[k] [J k] (fun v L'=>(v=.bool true∧L' = [J (k+1)])∨(v=.bool false∧L' = [Jx k]))) →
  Tri P gf (.func (.yield l) #[] #[]::cap).toArray (J 0::Lg) (fun _ L'=>L' = J vals.length::Lx∨∃ k,L' = Jx k::Lx)
theorem G.e7 {g:Operand} {ps:Array Tmp} {assign body:Code} {gf:FuncId} {cap:List Value} {vals:List (List Value)} {Lg Lx:List HP} (it:EF P gf cap vals Lg Lx) (hg:evE env g=some (.func (.func gf) #[] cap.toArray))
  (hen:Enters P gf) (hps:∀ p∈ps,p<N) (hlen:∀ vs∈vals,vs.length=ps.size) (I:Nat→List HP) (hl:Ent L (I 0++Lg))
  (hbody:∀ k (hk:k<vals.length),G P N assign (penv env (ps.toList.zip vals[k])) (I k) (Post.seq (fun env' L'=>G P N body env' L' (oC K env Lx (I (k+1)))) (fun _ _ _=>False)))
  (hdone:K .normal env (I vals.length++Lx)):G P N (.rangeFunc g ps assign body) env L K:=by
 intro r θ Y a w hr i
 obtain ⟨M,ea,hm,s⟩:=i
 have s0:Sat θ (I 0++Lg++(mkH M++Y)) w:=hl θ _ w s
 -- what is the same in both cases
 have main:∀ (fn:FuncId) (l D:Nat) (mark:List Nat) (w₁:World),(Instr.enterLoop fn a.tmps ps assign body r).run P w=.ok (l,mkD mark) w₁ →
   Sat θ (own l (.loop { state:=.ready,pending:=none,fn,tmps:=a.tmps,params:=ps,assign,body,defers:=D })::(mkH mark++(I 0++Lg++(mkH M++Y)))) w₁ →
   ∃ (l:Nat) (mark:List Deferred) (w₁:World) (d:Deferred) (w₁' : World) (f:FuncId) (args:Array Value) (w₂:World),
   (Instr.enterLoop fn a.tmps ps assign body (FW r).round).run P w=.ok (l,mark) w₁ ∧
   (resolve a.eval (rangeCall g l) 0).run P w₁=.ok d w₁' ∧
   (∀ f',Target.leads P w₁' d.target d.args=some f'→(FW r).fn f') ∧
   (invoke d.target d.args).run P w₁' = .ok (.enter f args) w₂ ∧
   ((FW r).depth.isSome=true→1≤0) ∧
   CallsIn (FW r) (0 - 1) P f args w₂ (rangePost (FW r) 0 P l (QK θ Y N K) { a with defers:=mark++a.defers }):=by
  intro fn l D mark w₁ he s1
  obtain ⟨rec,hrec⟩:∃ rec:Loop,rec={ state:=.ready,pending:=none,fn,tmps:=a.tmps,params:=ps,assign,body,defers:=D }:=⟨_,rfl⟩
  rw [← hrec] at s1
  have hst:rec.state=.ready:=by rw [hrec]
  have hpe:rec.pending=none:=by rw [hrec]
  have hy:∀ k (hk:k<vals.length),YTri P l vals[k] [aX (own l (.loop rec)::I k)] (fun v L'=>(v=.bool true∧L' = [aX (own l (.loop rec)::I (k+1))])∨(v=.bool false∧L' = [hex fun x:Code×List HP=>aX (bK (eN K env Lx x.1 x.2)::own l (.loop { rec with state:=.done,pending:=some x.1 })::x.2)])):=by
   intro k hk
   refine mf hst hpe (by rw [hrec];exact hlen _ (List.getElem_mem _)) (by rw [hrec];exact hps) (env:=env) ?_ ?_
   ·rw [hrec];exact ⟨ea.size,ea.at_⟩
   ·rw [hrec];exact hbody k hk
  have ht:=it l (fun k=>aX (own l (.loop rec)::I k)) (fun _=>hex fun x:Code×List HP=>aX (bK (eN K env Lx x.1 x.2)::own l (.loop { rec with state:=.done,pending:=some x.1 })::x.2)) hy
  have hga:a.eval g=.func (.func gf) #[] cap.toArray:=ao ea.agr hg
  refine ⟨l,mkD mark,w₁,{ target:=.fn (.func gf) cap.toArray,args:=#[.func (.yield l) #[] #[]] },w₁,gf,(.func (.yield l) #[] #[]::cap).toArray,w₁,he,?_,fun _ _=>trivial,?_,(fun h=>by cases h),ki ?_⟩
  ·simp only [resolve,Deferred.ofValue,hga]
   simp [Act.eval]
  ·have:=hen (.func (.yield l) #[] #[]::cap).toArray w₁
   simpa [invoke] using this
  have s2:Sat θ (aX (own l (.loop rec)::I 0)::Lg++(mkH mark++(mkH M++Y))) w₁:=by
   refine Sat.a6 (A:=own l (.loop rec)::I 0) (s1.perm ?_)
   simp only [List.cons_append]
   refine List.Perm.cons _ ?_
   rw [List.append_assoc]
   refine perm_front.trans ?_
   refine List.Perm.append_left _ ?_
   exact perm_front
  refine (ht.calls θ _ w₁ s2).mono ?_
  rintro e w₂ ⟨v,L',rfl,hL',s3⟩
  rcases hL' with rfl|⟨k,rfl⟩
  ·have s4:Sat θ (own l (.loop rec)::(I vals.length++(Lx++(mkH mark++(mkH M++Y))))) w₂:=Sat.ofStars (A:=own l (.loop rec)::I vals.length) s3
   have hh:=s4.own_heap
   refine ⟨none,_,(by rw [← hpe];exact gx hh (by rw [hst];simp)),?_⟩
   have s5:=(Sat.a7 (rec':={ rec with state:=.exhausted }) s4).tail
   refine ⟨env,I vals.length++Lx,⟨mark++M,⟨ea.size,ea.at_⟩,by simp [mkD,hm],?_⟩,hdone⟩
   have e:mkH (mark++M)++Y=mkH mark++(mkH M++Y):=by simp [mkH]
   rw [e,List.append_assoc]
   exact s5
  ·obtain ⟨⟨c,L₂⟩,s4⟩:=Sat.ofHex (L:=Lx++(mkH mark++(mkH M++Y))) s3
   have s5:Sat θ (bK (eN K env Lx c L₂)::(own l (.loop { rec with state:=.done,pending:=some c })::(L₂++(Lx++(mkH mark++(mkH M++Y)))))) w₂:=Sat.ofStars (A:=bK (eN K env Lx c L₂)::own l (.loop { rec with state:=.done,pending:=some c })::L₂) s4
   have hj:=s5.ofPure
   have s6:=s5.tail
   have hh:=s6.own_heap
   have s7:=(Sat.a7 (rec':={ ({ rec with state:=.done,pending:=some c }:Loop) with state:=.exhausted }) s6).tail
   refine ⟨some c,_,gx hh (by simp),?_⟩
   have hat:At N env (L₂++Lx) θ Y { a with defers:=mkD mark++a.defers } { w₂ with heap:=w₂.heap.setIfInBounds l (.loop { ({ rec with state:=.done,pending:=some c }:Loop) with state:=.exhausted }) }:=by
    refine ⟨mark++M,⟨ea.size,ea.at_⟩,by simp [mkD,hm],?_⟩
    have e:mkH (mark++M)++Y=mkH mark++(mkH M++Y):=by simp [mkH]
    rw [e,List.append_assoc]
    exact s7
   cases c with
   | ret=>exact wpIn_ret ⟨env,_,hat,hj⟩
   | exit id=>exact wpIn_exit ⟨env,_,hat,hj⟩
   | _=>exact hj.elim
 refine wpIn_rangeFunc fun fn _=>?_
 cases r with
 | none =>
  have s1:=s0.alloc (o:=.deferred (some []))
  have s2:=s1.alloc (o:=.loop { state:=.ready,pending:=none,fn,tmps:=a.tmps,params:=ps,assign,body,defers:=w.heap.size })
  refine main fn (w.heap.size+1) w.heap.size [w.heap.size] _ gI ?_
  rw [World.size_alloc] at s2
  exact s2
 | some l =>
  obtain ⟨rec,Y',hY⟩:=hr l rfl
  have hl0:w.heap[l]? = some (.loop rec):=by
   have s1:Sat θ (own l (.loop rec)::(I 0++Lg++(mkH M++Y'))) w:=s0.perm (by
    have h1:(I 0++Lg++(mkH M++Y)).Perm (I 0++Lg++(mkH M++(own l (.loop rec)::Y'))):=(hY.append_left _).append_left _
    refine h1.trans ?_
    rw [← List.append_assoc,← List.append_assoc (I 0++Lg)]
    exact List.perm_middle)
   exact s1.own_heap
  exact main fn w.heap.size rec.defers [] _ (gH hl0) s0.alloc
theorem Ent.openS {A L:List HP}:Ent (aX A::L) (A++L):=fun θ R w s=>by
 have h:Sat θ (A++(L++R)) w:=Sat.ofStars (L:=L++R) s
 rw [List.append_assoc]
 exact h
theorem Ent.e7 {A L:List HP}:Ent (A++L) (aX A::L):=fun θ R w s=>by
 rw [List.append_assoc] at s
 exact Sat.a6 s
def andP (A B:HP):HP:=fun ι _=>A ι Hp.emp∧B ι Hp.emp
theorem PersM.and {A B:HP} (hA:PersM A) (hB:PersM B):PersM (andP A B) :=
 ⟨fun _ _ h=>h,fun ι ι' _ hs h=>⟨hA.mono ι ι' _ hs h.1,hB.mono ι ι' _ hs h.2⟩⟩
theorem Ent.andE {A B:HP} {L:List HP}:Ent (andP A B::L) (A::B::L):=fun θ R w s=>by
 obtain ⟨ok,ι,h',a,b1,c,ι₀,h₁,h₂,d1,d2,d3,d4,d5,d6⟩:=s
 exact ⟨ok,ι,h',a,b1,c,ι₀,Hp.emp,h₂,d1,Hp.a7 _,Hp.a6 _,d4,d5.1,ι₀,Hp.emp,h₂,d1,Hp.a7 _,Hp.a6 _,Hp.sub.refl _,d5.2,d6⟩
theorem Ent.d8 {A B:HP} {L:List HP} (hA:PersM A) (hB:PersM B):Ent (A::B::L) (andP A B::L):=fun θ R w s=>by
 obtain ⟨ok,ι,h',a,b1,c,ι₁,h₁,h₂,d1,d2,d3,d4,d5,ι₂,h₃,h₄,e1,e2,e3,e4,e5,e6⟩:=s
 exact ⟨ok,ι,h',a,b1,c,ι,Hp.emp,h₄,Hp.sub.refl _,Hp.a7 _,Hp.a6 _,e4.trans d4,⟨hA.mono _ _ _ d1 (hA.pers _ _ d5),hB.mono _ _ _ e1 (hB.pers _ _ e5)⟩,e6⟩
theorem cj {α:Type} {f:α→HP} {l:List α} (hf:∀ x,PersM (f x)):PersM (allP f l) :=
 ⟨fun _ _ h=>h,fun ι ι' _ hs h x hx=>(hf x).mono ι ι' _ hs (h x hx)⟩
end fv
end Go.V
namespace Go.Proofs.YtfmgkkofledkbaaGreatDoor
open Go.V
attribute [local irreducible] G GO GP GPW GPK Ev Ef EfR Ent CB GB Enters
section
theorem getElem!_of {α:Type} [Inhabited α] {l:List α} {i:Nat} (h:i<l.length):l[i]! = l[i]:=by
 rw [List.getElem!_eq_getElem?_getD,List.getElem?_eq_getElem h];rfl
def I64 (n:Int):Prop:=-9223372036854775808≤n∧n≤9223372036854775807
theorem ap {α:Type} [Inhabited α] {l:List α} {i:Nat} (h:i<l.length):l[i]!∈l:=by rw [getElem!_of h];exact List.getElem_mem h
theorem kg {α:Type} [Inhabited α] {l:List α} {k:Nat} (h:k<l.length):l.drop k=l[k]!::l.drop (k+1):=by
 rw [List.drop_eq_getElem_cons h,getElem!_of h]
theorem ek {α β:Type} [Inhabited α] [Inhabited β] (f:α→β) {l:List α} {k:Nat} (h:k<l.length):(l.map f)[k]! = f l[k]!:=by
 rw [getElem!_of (by simpa using h),getElem!_of h]
 simp
abbrev Lot:=Int×Int×Int
def av (l:Lot):List Value:=[.int .i64 l.1,.int .i64 l.2.1,.int .i64 l.2.2]
theorem fI (t:Lot):∀ u∈av t,u.oneCell' = true:=by simp [av,Value.oneCell']
instance:EncC av:=⟨fI⟩
structure Stk where
 ad:Option Addr
 cap:Nat
 lots:List Lot
 deriving Inhabited
def Stk.v (s:Stk):Value:=.slice s.ad s.lots.length s.cap
abbrev stkP (s:Stk):HP:=isl av 3 s.ad s.lots
theorem ue (s:Stk):PersM (stkP s):=bB _ _ _ _
def encN (n:Int):Value:=.int .i64 n
abbrev tLot:Nat:=211
theorem jV {L:List HP} (ad:Option Addr) (n c:Nat) (xs:List Lot) [Rds L ad Lot av 3 xs] (hn:n=xs.length) (hb:n≤1000000) :
  Tri Tryz.prog 198 #[.slice ad n c] L (fun v L'=>∃ ad' cap',v=.slice ad' xs.length cap'∧L' = osl av 3 tLot ad' cap' xs::L):=by
 refine Tri.body (args:=[.slice ad n c]) 8 Il Tryz.func198 rfl rfl rfl (by simp) ?_
 repeat' first|refine aa ?_|intro _|with_reducible refine CB.dec (fun _=>?_) (fun _=>?_)|with_reducible refine GB.dec (fun _=>?_) (fun _=>?_)|with_reducible refine CB.bool (fun _=>?_) (fun _=>?_)|with_reducible refine GB.bool (fun _=>?_) (fun _=>?_)
 ·have h:ad=none:=by assumption
  subst h
  refine KX.d9 (.inl rfl) (jf (L:=L) (xs:=xs)) ?_
  intro hx
  subst hx
  refine KX.a6 ai (Ent.a7 av 3 tLot) ⟨_,_,rfl,rfl⟩
 ·refine GO.ent (Ent.c6 (enc:=av) (sz:=3) (xs:=[]) rfl rfl (by simp) (by simp)) ?_
  refine GO.ef (Ef.c6 rfl rfl rfl rfl hn (fun e _=>fI e) (by simp;omega) (by simp;omega)) ac ?_
  rintro _ _ ⟨ad',cap',rfl,rfl⟩
  repeat first|refine aa ?_|intro _
  refine KX.a6 ai (Ent.refl _) ⟨ad',cap',rfl,rfl⟩
def LotOk (l:Lot):Prop:=0≤l.1∧0≤l.2.1∧l.2.1≤1099511627776∧1≤l.2.2∧l.2.2≤1099511627776 - l.2.1
theorem jc {φ ψ:Prop} (k:ψ) (h:Hid ψ→φ:=by intro k;first|((with_reducible apply GO.a6);refine GO.c6 kZ Tryz.func299 rfl rfl rfl rfl (by simp) ac (Hid.out k))|((with_reducible apply GPW.a6);refine GPW.c6 kZ Tryz.func299 rfl rfl rfl rfl (by simp) ac (Hid.out k))|((with_reducible apply GO.a6);refine GO.a7 rfl kZ Tryz.func299 rfl rfl rfl rfl (by simp) ac (Hid.out k))|((with_reducible apply GPW.a6);refine GPW.a8 rfl kZ Tryz.func299 rfl rfl rfl rfl (by simp) ac (Hid.out k))|((with_reducible apply KX.c7);first|refine KX.in0 (.inl rfl) (Hid.out k)|refine KX.in0 (.inr rfl) (Hid.out k)|refine KX.in1 (.inl rfl) rfl (Hid.out k)|refine KX.in2 (.inl rfl) rfl rfl (Hid.out k)|refine KX.in3 (.inl rfl) rfl rfl rfl (Hid.out k)|refine KX.inC (.inl rfl) rfl (by rfl) (Hid.out k)|refine KX.c6 (.inl rfl) rfl (by rfl) rfl (Hid.out k))):φ:=h ⟨k⟩
theorem ie {L:List HP} (ad:Option Addr) (n c:Nat) (xs:List Lot) [Rds L ad Lot av 3 xs] (hn:n=xs.length) (hb:xs.length≤4096) (hx:∀ l∈xs,LotOk l) :
  Tri Tryz.prog 293 #[.slice ad n c] L (fun v L'=>v=.bool true∧L' = L):=by
 refine Tri.body (args:=[.slice ad n c]) 18 GL Tryz.func293 rfl rfl rfl (by simp) ?_
 repeat first|refine aa ?_|intro _|refine jc ?_
 refine G.loop (α:=Nat) (fun i=>i≤n) (fun i=>[(0,.slice ad n c),(8,.slice ad n c),(9,.int .i64 n),(10,.int .i64 (i:Int))]) (fun _=>L) (fun i=>n - i) 0 (Nat.zero_le _) aj (Ent.refl _) ?_
 intro i hi
 by_cases hlt:i<n
 case neg =>
  repeat first|refine aa ?_|intro _|refine jc ?_
  exact KX.a6 ai (Ent.refl _) ⟨rfl,rfl⟩
 obtain ⟨o1,o2,o3,o4,o5⟩:=hx _ (ap (show i<xs.length by omega))
 have hii:(i:Int).toNat=i:=ab
 rw [← hii] at o1 o2 o3 o4 o5
 repeat first|refine aa ?_|intro _|refine jc ?_
 rw [aw o5]
 repeat first|refine aa ?_|intro _|refine jc ?_
 refine ⟨i+1,ab,ab,?_,?_⟩
 ·rw [show ((i+1:Nat):Int)=(i:Int)+1 by omega]
  exact aj
 ·exact ae
def glk {κ α:Type} [DecidableEq κ] (m:List (κ×α)) (k:κ):Option α:=m.lookup k
theorem pc {κ α β:Type} [DecidableEq κ] (g:α→β) (k:κ):∀ m:List (κ×α),(m.map (fun p=>(p.1,g p.2))).lookup k=(m.lookup k).map g
 | []=>rfl
 | (q,x)::m=>by
  simp only [List.map_cons,List.lookup_cons]
  by_cases h:k=q
  ·subst h;simp
  ·have hb:(k == q)=false:=by simpa using h
   simp only [hb]
   exact pc g k m
theorem mG {κ α:Type} [DecidableEq κ] {m:List (κ×α)} {k:κ} {a:α}:∀ p∈gins m k a,p∈(k,a)::m:=by
 intro p hp
 unfold gins at hp
 split at hp
 ·obtain ⟨q,hq,rfl⟩:=List.mem_map.1 hp
  split
  ·exact List.mem_cons_self ..
  ·exact List.mem_cons_of_mem _ hq
 ·rcases List.mem_append.1 hp with h|h
  ·exact List.mem_cons_of_mem _ h
  ·simp at h;subst h;exact List.mem_cons_self ..
def lsum (xs:List Lot):Int:=xs.foldl (fun s l=>s+l.2.2) 0
theorem dL (xs:List Lot) {i:Nat} (h:i<xs.length):lsum (xs.take (i+1))=lsum (xs.take i)+xs[i]!.2.2:=by
 unfold lsum
 rw [List.take_succ_eq_append_getElem h,List.foldl_append,getElem!_of h]
 rfl
theorem fg {xs:List Lot} (h:∀ l∈xs,LotOk l):∀ i,i≤xs.length→0≤lsum (xs.take i)∧lsum (xs.take i)≤(i:Int)*1099511627776:=by
 intro i
 induction i with
 | zero=>intro _;simp [lsum]
 | succ i ih =>
  intro hi
  obtain ⟨h1,h2⟩:=ih ab
  obtain ⟨o1,o2,o3,o4,o5⟩:=h _ (ap (show i<xs.length by omega))
  rw [dL xs ab]
  have:((i+1:Nat):Int)*1099511627776=(i:Int)*1099511627776+1099511627776:=ab
  rw [this]
  omega
theorem lg {L:List HP} (ad:Option Addr) (n c:Nat) (xs:List Lot) [Rds L ad Lot av 3 xs] (hn:n=xs.length) (hb:xs.length≤4096) (hx:∀ l∈xs,LotOk l) :
  Tri Tryz.prog 74 #[.slice ad n c] L (fun v L'=>v=.int .i64 (lsum xs)∧L' = L):=by
 refine Tri.body (args:=[.slice ad n c]) 18 en74 Tryz.func74 rfl rfl rfl (by simp) ?_
 repeat first|refine aa ?_|intro _
 refine G.loop (α:=Nat) (fun i=>i≤n) (fun i=>[(0,.slice ad n c),(3,.int .i64 (lsum (xs.take i))),(6,.slice ad n c),(7,.int .i64 n),(8,.int .i64 (i:Int))]) (fun _=>L) (fun i=>n - i) 0 (Nat.zero_le _) aj (Ent.refl _) ?_
 intro i hi
 by_cases hlt:i<n
 case neg =>
  rw [List.take_of_length_le (show xs.length≤i by omega)]
  repeat first|refine aa ?_|intro _
  exact KX.a6 ai (Ent.refl _) ⟨rfl,rfl⟩
 have hb1:=fg hx i ab
 obtain ⟨o1,o2,o3,o4,o5⟩:=hx _ (ap (show i<xs.length by omega))
 have hs:=dL xs (show i<xs.length by omega)
 have hm:(i:Int)*1099511627776≤4096*1099511627776:=Int.mul_le_mul_of_nonneg_right ab ac
 repeat first|refine aa ?_|intro _
 rw [Int.toNat_natCast]
 repeat first|refine aa ?_|intro _
 refine ⟨i+1,ab,ab,?_,Ent.drop⟩
 rw [hs,show ((i+1:Nat):Int)=(i:Int)+1 by omega]
 exact aj
theorem Ev.A4 {P:Program} {L:List HP} {env:Env} {ty:TypeId} {κ α:Type} {t K E:TypeId} {z:Value} {x:Operand} {b:Nat} {kv:κ→Value} {enc:α→Value} {m:List (κ×α)} {R:List HP} [ht:TyG P t K E z] [hp:PickG L b κ α kv enc m R] (hx:evE env x=some (.map (some b))) :
  Ev P L env (.call { callee:=.builtin .len,args:=#[x],argTypes:=#[t] }) ty (.int .i64 (m.length:Int)) :=
 Ev.mk (fun θ R _ w ea s _ _ _ _=>by
  obtain ⟨es,clock,e1,e2,e3,e4,e5,s2⟩:=(s.perm (hp.perm.append_right R)).gmap_parts
  have hb:=s2.own_heap
  have hget:(getObj b).run P w=.ok (.map es clock) w:=by simp [getObj,Sem.run,hb]
  have hsz:es.size=m.length:=by
   have:=congrArg List.length e1
   simpa using this
  simp [execOp,resolve,invoke,ao ea hx,builtin,Builtin.len_,run_underlying ht.under,hget,goInt,hsz])
theorem Ev.t8 {P:Program} {L:List HP} {env:Env} {ty:TypeId} {t f off:Nat} {x:Operand} {cs:List Value} {v:Value} {fs:Array Field} {fd:Field} (h1:P.underlying t=some (.struct fs)) (h2:fs[f]? = some fd) (h3:fd.offset=off) (h4:∀ w,(isAgg fd.type).run P w=.ok false w)
  (hx:evE env x=some (.agg cs.toArray)) (hv:cs[off]? = some v):Ev P L env (.field t x f) ty v :=
 Ev.mk (fun θ R _ w ea s _ _ _ _=>by
  simp [execOp,ao ea hx,Instr.field,run_underlying h1,h2,h3,asAgg,part,h4,hv])
def aB (a:Int×Int):List Value:=[.int .i64 a.1,.int .i64 a.2]
theorem nT (t:Int×Int):∀ u∈aB t,u.oneCell' = true:=by simp [aB,Value.oneCell']
instance:EncC aB:=⟨nT⟩
end
end Go.Proofs.YtfmgkkofledkbaaGreatDoor
namespace Go.Proofs.YtfmgkkofledkbaaGreatDoor
open Go.V
attribute [local irreducible] G GO GP GPW GPK Ev Ef EfR Ent CB GB V.Enters
section
def kindsL:List Int:=[0,0,0,0,0,0,0,0,0,1,1,0,0,0,0,0,0,0,0,0,0,0,0,0,0,0,0,0,0,0,0,0,1,0,0,2,0,0,0,0,7,7,0,7,7,6,7,0,4,4,4,4,4,4,4,4,4,4,7,7,7,7,7,0,0,0,0,0,0,0,0,0,0,0,0,0,0,0,0,0,0,0,0,0,0,0,0,0,0,0,0,0,0,0,0,5,0,3,3,3,3,3,3,3,3,3,3,3,3,3,3,3,3,3,3,3,3,3,3,3,3,3,3,7,0,7,0,0]
abbrev aP:HP:=isl (encZ .u8) 1 (some ⟨3,0,none⟩) kindsL
theorem qQ:kindsL.length=128:=by kernel_rfl
def dM (s:ByteArray) (i:Int):Int:=if i<s.size∧(aD s)[i.toNat]! < 128 then kindsL[((aD s)[i.toNat]!).toNat]! else 0
theorem jw {L:List HP} (s:ByteArray) (i:Int) (h0:0≤i) (hs:s.size≤1000000) [Rds L (some ⟨3,0,none⟩) Int (encZ .u8) 1 kindsL] :
  Tri Tryz.prog 339 #[.string s,.int .i64 i] L (fun v L'=>v=.int .u8 (dM s i)∧L' = L):=by
 have hkl:=qQ
 refine Tri.body (args:=[.string s,.int .i64 i]) 20 Gp Tryz.func339 rfl rfl rfl (by simp) ?_
 by_cases h1:i<s.size
 case neg =>
  have e:dM s i=0:=if_neg fun h=>h1 h.1
  rw [e]
  repeat first|refine run ?_|intro _
  exact KX.a6 ai (Ent.refl _) ⟨rfl,rfl⟩
 have hb:=sD s _ (ap (show i.toNat<(aD s).length by rw [iU];omega))
 by_cases h2:(aD s)[i.toNat]! < 128
 case neg =>
  have e:dM s i=0:=if_neg fun h=>h2 h.2
  rw [e]
  repeat first|refine run ?_|intro _
  exact KX.a6 ai (Ent.refl _) ⟨rfl,rfl⟩
 have e:dM s i=kindsL[((aD s)[i.toNat]!).toNat]!:=if_pos ⟨h1,h2⟩
 rw [e]
 obtain ⟨c,hc⟩:∃ c,(aD s)[i.toNat]! = c:=⟨_,rfl⟩
 rw [hc] at hb h2 ⊢
 have hm:((aD s)[i.toNat]!).toNat*1=c.toNat*1+0:=by rw [hc];omega
 have hm2:0+((aD s)[i.toNat]!).toNat*1=c.toNat*1+0:=by rw [hc];omega
 repeat first|refine run ?_|intro _
 refine GO.ev (Ev.e8 (j:=c.toNat) (o:=0) rfl hm2 ab ac rfl) ac ?_
 repeat first|refine run ?_|intro _
 exact KX.a6 ai (Ent.refl _) ⟨rfl,rfl⟩
structure IsWord (s:ByteArray):Prop where
 size:1≤s.size∧s.size≤16
 first:dM s 0=3
 rest:∀ i:Nat,i<s.size→dM s i=3∨dM s i=4∨dM s i=5
theorem CF (s:ByteArray):dM s s.size=0:=if_neg fun h=>absurd h.1 ab
theorem sm {L:List HP} (s:ByteArray) (i:Int) (h0:0≤i) (hs:s.size≤1000000) (hk:i<s.size→dM s i≠1∧dM s i≠2) [Rds L (some ⟨3,0,none⟩) Int (encZ .u8) 1 kindsL] :
  Tri Tryz.prog 327 #[.string s,.int .i64 i] L (fun v L'=>v=.int .i64 i∧L' = L):=by
 refine Tri.body (args:=[.string s,.int .i64 i]) 32 Gw Tryz.func327 rfl rfl rfl (by simp) ?_
 repeat first|refine run ?_|intro _
 refine G.d7 1 (GR.step ?_)
 by_cases h1:i<s.size
 case neg =>
  repeat first|refine run ?_|intro _
  exact KX.a6 ai (Ent.refl _) ⟨rfl,rfl⟩
 obtain ⟨hk1,hk2⟩:=hk h1
 repeat first|refine run ?_|intro _
 refine GO.ef (Ef.a6 (jw s i h0 hs) rfl) ac ?_
 rintro _ _ ⟨rfl,rfl⟩
 repeat first|refine run ?_|intro _
 exact KX.a6 ai (Ent.refl _) ⟨rfl,rfl⟩
structure Tok where
 kind:Int
 text:ByteArray
 n:Int
 pos:Int
 deriving Inhabited
def encT (t:Tok):List Value:=[.int .i64 t.kind,.string t.text,.int .i64 t.n,.int .i64 t.pos]
theorem pK (t:Tok):∀ u∈encT t,u.oneCell' = true:=by simp [encT,Value.oneCell']
instance:EncC encT:=⟨pK⟩
def fu (s:ByteArray):Tok:=⟨0,s,0,0⟩
abbrev tTok:Nat:=343
abbrev xJ:List Stp:=[.ev 0,.ev 1,.ev 2,.ev 3,.ev 4,.ev 5,.ev 6,.ev 7,.ev 8,.ev 9,.ef 10]
theorem fZ {φ ψ:Prop} (k:ψ) (h:Hid ψ→φ:=by intro k;(with_reducible apply G.a7);first|refine G.a6 (N:=99) (id:=20) xJ mixed ah (Hid.out k)):φ:=h ⟨k⟩
theorem Cs {L:List HP} (s:ByteArray) (hw:IsWord s) [Rds L (some ⟨3,0,none⟩) Int (encZ .u8) 1 kindsL] :
  Tri Tryz.prog 328 #[.string s,.int .i64 0] L (fun v L'=>v=.tuple #[.agg (encT (fu s)).toArray,.int .i64 0]∧L' = L):=by
 have hsz:=hw.size
 refine Tri.body (args:=[.string s,.int .i64 0]) 99 Gv Tryz.func328 rfl rfl rfl (by simp) ?_
 repeat first|refine run ?_|intro _|refine fZ ?_
 rename_i b4 b6
 refine GO.ef (Ef.a6 (jw s 0 ac ab) rfl) ac ?_
 rintro _ _ ⟨rfl,rfl⟩
 rw [hw.first]
 repeat first|refine run ?_|intro _|refine fZ ?_
 refine GO.ef (Ef.a6 (jw s (0+1) ac ab) rfl) ac ?_
 rintro _ _ ⟨rfl,rfl⟩
 repeat first|refine run ?_|intro _|refine fZ ?_
 refine G.loop (α:=Nat) (fun e=>1≤e∧e≤s.size) (fun e=>[(0,.string s),(1,.int .i64 0),(4,.pointer (some ⟨b4,0,none⟩)),(6,.pointer (some ⟨b6,0,none⟩)),(7,.int .i64 (e:Int)),(8,.int .u8 (dM s (e:Int)))])
  (fun _=>obj b6 tTok [.int .i64 0,.string ⟨#[]⟩,.int .i64 0,.int .i64 0]::obj b4 tTok [.int .i64 0,.string ⟨#[]⟩,.int .i64 0,.int .i64 0]::L) (fun e=>s.size - e) 1 ⟨ab,ab⟩ aj (Ent.refl _) ?_
 rintro e ⟨he1,he2⟩
 by_cases hlt:e<s.size
 case neg =>
  have hes:e=s.size:=ab
  subst hes
  rw [CF]
  repeat first|refine run ?_|intro _|refine fZ ?_
  rw [Int.toNat_zero,Int.toNat_natCast,pi]
  exact KX.a6 (by exact ResOk.cell rfl (by rfl) (ResOk.tmp rfl (ResOk.nil))) (Ent.trans Ent.drop Ent.drop) ⟨rfl,rfl⟩
 have hr:=hw.rest e hlt
 have hgo:∀ {q:Prop},(dM s (e:Int)=3→q)→(dM s (e:Int)≠3→dM s (e:Int)=4→q)→(dM s (e:Int)≠3→dM s (e:Int)≠4→dM s (e:Int)=5→q)→q:=by
  intro q a b c
  rcases hr with h|h|h
  ·exact a h
  ·exact b ab h
  ·exact c ab ab h
 refine hgo ?_ ?_ ?_<;>intros
 all_goals
  repeat first|refine run ?_|intro _|refine fZ ?_
  refine GO.ef (Ef.a6 (jw s ((e:Int)+1) ab ab) rfl) ac ?_
  rintro _ _ ⟨rfl,rfl⟩
  repeat first|refine run ?_|intro _|refine fZ ?_
  refine ⟨e+1,⟨ab,ab⟩,ab,?_,Ent.refl _⟩
  rw [show ((e+1:Nat):Int)=(e:Int)+1 by omega]
  exact aj
theorem Ek {L0:List HP} (bx:Nat) (s:ByteArray) (hw:IsWord s) [hrd:Rds L0 (some ⟨3,0,none⟩) Int (encZ .u8) 1 kindsL] :
  Iter Tryz.prog 326 [.pointer (some ⟨bx,0,none⟩)] [[.agg (encT (fu s)).toArray,.int .i64 0]] (obj bx 9 [.string s]::L0):=by
 have hsz:=hw.size
 have hk0:=hw.first
 have hts:(fu s).text.size=s.size:=rfl
 intro l J Jx hy
 have hy0:=hy 0 (by simp)
 simp only [List.getElem_cons_zero] at hy0
 show Tri _ _ _ _ (fun _ L'=>L' = J 1::_∨_)
 refine Tri.body (args:=[.func (.yield l) #[] #[],.pointer (some ⟨bx,0,none⟩)]) 34 Ex Tryz.func326 rfl rfl rfl (by simp) ?_
 repeat first|refine run ?_|intro _
 refine GO.ef (Ef.a6 (sm s 0 ac ab (fun _=>by rw [hk0];decide)) rfl) ac ?_
 rintro _ _ ⟨rfl,rfl⟩
 repeat first|refine run ?_|intro _
 refine G.d7 2 (GR.step ?_)
 repeat first|refine run ?_|intro _
 refine GO.ef (Ef.a6 (Cs s hw) rfl) ac ?_
 rintro _ _ ⟨rfl,rfl⟩
 repeat first|refine run ?_|intro _
 ((with_reducible apply GO.a6);refine GO.efR (EfR.yield (hy0) rfl rfl (by repeat (first|exact Ent.refl _|apply Ent.take))) ac ?_)
 rintro _ _ ⟨_,(⟨rfl,rfl⟩|⟨rfl,rfl⟩),hL⟩
 ·simp only [List.cons_append,List.nil_append] at hL;subst hL
  repeat first|refine run ?_|intro _
  refine GO.ef (Ef.a6 (sm s (0+((fu s).text.size:Int)) ab ab (fun h=>absurd h ab)) rfl) ac ?_
  rintro _ _ ⟨rfl,rfl⟩
  repeat first|refine run ?_|intro _
  refine GR.step ?_
  repeat first|refine run ?_|intro _
  exact KX.a8 ai (Ent.a6 Ent.drop) (.inl rfl)
 ·simp only [List.cons_append,List.nil_append] at hL;subst hL
  repeat first|refine run ?_|intro _
  exact KX.a6 ai (Ent.a6 Ent.drop) (.inr ⟨0,rfl⟩)
abbrev AG:List Stp:=[.ev 0,.ev 1,.ev 2,.ef 3,.ef 4,.ef 5]
theorem gW {φ ψ:Prop} (k:ψ) (h:Hid ψ→φ:=by intro k;first|((with_reducible apply GO.a6);refine GO.c6 tR Tryz.func310 rfl rfl rfl rfl (by simp) ac (Hid.out k))|((with_reducible apply GPW.a6);refine GPW.c6 tR Tryz.func310 rfl rfl rfl rfl (by simp) ac (Hid.out k))|((with_reducible apply GO.a6);refine GO.a7 rfl tR Tryz.func310 rfl rfl rfl rfl (by simp) ac (Hid.out k))|((with_reducible apply GPW.a6);refine GPW.a8 rfl tR Tryz.func310 rfl rfl rfl rfl (by simp) ac (Hid.out k))|((with_reducible apply KX.c7);first|refine KX.in0 (.inl rfl) (Hid.out k)|refine KX.in0 (.inr rfl) (Hid.out k)|refine KX.in1 (.inl rfl) rfl (Hid.out k)|refine KX.in2 (.inl rfl) rfl rfl (Hid.out k)|refine KX.in3 (.inl rfl) rfl rfl rfl (Hid.out k)|refine KX.inC (.inl rfl) rfl (by rfl) (Hid.out k)|refine KX.c6 (.inl rfl) rfl (by rfl) rfl (Hid.out k))):φ:=h ⟨k⟩
theorem gV {φ ψ:Prop} (k:ψ) (h:Hid ψ→φ:=by intro k;(with_reducible apply G.a7);first|refine G.a6 (N:=25) (id:=8) AG mixed ah (Hid.out k)):φ:=h ⟨k⟩
theorem vY {L:List HP} (s:ByteArray) (hw:IsWord s) [Rds L (some ⟨3,0,none⟩) Int (encZ .u8) 1 kindsL] :
  Tri Tryz.prog 275 #[.string s] L (fun v L'=>∃ ad cap,v=.tuple #[.slice ad 1 cap,.int .i64 0,.int .i64 0]∧L' = osl encT 4 tTok ad cap [fu s]::L):=by
 have hsz:=hw.size
 refine Tri.body (args:=[.string s]) 25 Ha Tryz.func275 rfl rfl rfl (by simp) ?_
 repeat first|refine run ?_|intro _|refine gV ?_|refine gW ?_
 rename_i b2 b3 b4 b5 bx
 refine G.rangeFunc (Ek (L0:=L) bx s hw) rfl Ex ac (by simp) (fun k=>if k=0 then [obj b5 340 [.slice none 0 0],obj b2 340 [.slice none 0 0],obj b3 3 [.int .i64 0],obj b4 43 [.int .i64 0]] else [hex fun x:Option Addr×Nat=>aX [obj b5 340 [.slice x.1 1 x.2],osl encT 4 tTok x.1 x.2 [fu s]],obj b2 340 [.slice none 0 0],obj b3 3 [.int .i64 0],obj b4 43 [.int .i64 0]]) ?_ ?_ ?_
 ·simp only [if_true,List.cons_append,List.nil_append]
  exact ae
 ·intro k hk
  have hk0:k=0:=by simpa using hk
  subst hk0
  simp only [if_true,List.getElem_cons_zero,Nat.zero_add,Nat.one_ne_zero,if_false]
  show G _ _ _ ((14,.int .i64 0)::(13,.agg (encT (fu s)).toArray)::_) _ _
  repeat first|refine run ?_|intro _|refine gV ?_|refine gW ?_
  refine GO.ent (Ent.a7 encT 4 tTok) ?_
  refine GO.ef (Ef.a7 (enc:=encT) (e:=fu s) rfl rfl rfl rfl rfl (by rfl) (pK _) (by simp) (by simp)) ac ?_
  rintro _ _ ⟨ad2,cap2,rfl,rfl⟩
  repeat first|refine run ?_|intro _|refine gV ?_|refine gW ?_
  refine KX.round ?_
  refine Ent.trans ?_ (Ent.e9 (ad2,cap2) (Ent.refl _))
  simp only [List.cons_append,List.nil_append]
  exact ae
 simp only [List.length_cons,List.length_nil,Nat.zero_add,Nat.one_ne_zero,if_false,List.cons_append,List.nil_append]
 refine KX.a7 ?_
 repeat first|refine run ?_|intro _|refine gV ?_|refine gW ?_
 refine GO.c7 (f:=fun x:Option Addr×Nat=>[obj b5 340 [.slice x.1 1 x.2],osl encT 4 tTok x.1 x.2 [fu s]]) ?_
 rintro ⟨ad2,cap2⟩
 simp only [List.cons_append,List.nil_append]
 repeat first|refine run ?_|intro _|refine gV ?_|refine gW ?_
 refine KX.a6 (by exact ResOk.a6 rfl (ResOk.a6 rfl (ResOk.a6 rfl (ResOk.nil)))) ?_ ⟨ad2,cap2,rfl,rfl⟩
 exact ae
theorem kh {L:List HP} (s:ByteArray) (hw:IsWord s) [Rds L (some ⟨3,0,none⟩) Int (encZ .u8) 1 kindsL] :
  Tri Tryz.prog 208 #[.string s] L (fun v L'=>v=.bool true∧L' = L):=by
 have hl1:([fu s]).length=1:=rfl
 refine Tri.body (args:=[.string s]) 34 Ib Tryz.func208 rfl rfl rfl (by simp) ?_
 repeat first|refine run ?_|intro _
 refine GO.ef (Ef.a6 (vY s hw) rfl) ac ?_
 rintro _ _ ⟨ad,cap,rfl,rfl⟩
 have h00:([fu s]:List Tok)[(0:Int).toNat]! = fu s:=rfl
 have hkd:(fu s).kind=0:=rfl
 repeat first|refine run ?_|intro _
 rw [h00]
 repeat first|refine run ?_|intro _
 refine KX.a6 ai Ent.drop ⟨?_,rfl⟩
 rw [aw (show (fu s).text=s from rfl)]
 rfl
end
end Go.Proofs.YtfmgkkofledkbaaGreatDoor
namespace Go.Proofs.YtfmgkkofledkbaaGreatDoor
open Go.V
attribute [local irreducible] G GO GP GPW GPK Ev Ef EfR Ent CB GB Enters
section
def LotW (l:Lot):Prop:=0≤l.1∧0≤l.2.1∧0≤l.2.2∧l.2.1+l.2.2≤1099511627776
theorem LotOk.w {l:Lot} (h:LotOk l):LotW l:=by unfold LotOk at h;unfold LotW;omega
def kR (x b:Lot):Prop:=[x.1,x.2.1,0]=[b.1,b.2.1+b.2.2,0]
instance (x b:Lot):Decidable (kR x b):=by unfold kR;infer_instance
theorem lcont_iff {x b:Lot}:kR x b↔x.1=b.1∧x.2.1=b.2.1+b.2.2:=by simp [kR]
def bR (l:List Lot) (x:Lot):List Lot :=
 if x.2.2=0 then l else if l.length≠0∧kR x l[l.length - 1]! then l.set (l.length - 1) (l[l.length - 1]!.1,l[l.length - 1]!.2.1,l[l.length - 1]!.2.2+x.2.2) else l++[x]
theorem nF (l:List Lot) (x:Lot):(bR l x).length≤l.length+1:=by
 unfold bR
 split
 ·omega
 ·split<;>simp
theorem Fd {l:List Lot} {x:Lot} (h:∀ y∈l,LotW y) (hx:LotW x):∀ y∈bR l x,LotW y:=by
 unfold bR
 split
 ·exact h
 ·split
  ·rename_i hc
   obtain ⟨hc1,hc2⟩:=hc
   rw [lcont_iff] at hc2
   intro y hy
   rcases List.mem_or_eq_of_mem_set hy with hy|rfl
   ·exact h y hy
   ·have:=h _ (ap (show l.length - 1<l.length by omega))
    unfold LotW at this hx ⊢
    dsimp only
    omega
  ·intro y hy
   rcases List.mem_append.1 hy with hy|hy
   ·exact h y hy
   ·rw [List.mem_singleton] at hy;subst hy;exact hx
theorem nc {xs:List Lot}:∀ {l:List Lot},(∀ y∈l,LotW y)→(∀ y∈xs,LotW y)→∀ y∈xs.foldl bR l,LotW y:=by
 induction xs with
 | nil=>intro l h _;exact h
 | cons x xs ih =>
  intro l h hx
  exact ih (Fd h (hx x (List.mem_cons_self ..))) (fun y hy=>hx y (List.mem_cons_of_mem _ hy))
theorem kV (xs:List Lot):∀ l:List Lot,(xs.foldl bR l).length≤l.length+xs.length:=by
 induction xs with
 | nil=>intro l;simp
 | cons x xs ih =>
  intro l
  have h1:=ih (bR l x)
  have h2:=nF l x
  simp only [List.foldl_cons,List.length_cons]
  omega
theorem AT {L:List HP} (x b:Lot) (hb:LotW b):Tri Tryz.prog 322 #[.agg (av x).toArray,.agg (av b).toArray] L (fun v L'=>v=.bool (dB (kR x b))∧L' = L):=by
 unfold LotW at hb
 refine Tri.body (args:=[.agg (av x).toArray,.agg (av b).toArray]) 19 GA Tryz.func322 rfl rfl rfl (by simp) ?_
 repeat first|refine aa ?_|intro _
 exact KX.a6 ai ae ⟨rfl,rfl⟩
abbrev Av:List Stp:=[.ev 0,.ev 1,.ev 2,.ev 3,.ev 4,.ev 5,.ev 6,.ev 7,.ev 8,.ef 9,.ev 10]
abbrev Au:List Stp:=[.ev 0,.ev 1,.ev 2,.ev 3,.ev 4,.ev 5,.ev 6,.ev 7,.ev 8,.ev 9,.ev 10,.ef 11]
theorem eM {φ ψ:Prop} (k:ψ) (h:Hid ψ→φ:=by intro k;(with_reducible apply G.a7);first|refine G.a6 (N:=39) (id:=4) Av mixed ah (Hid.out k)|refine G.a6 (N:=39) (id:=5) Au mixed ah (Hid.out k)):φ:=h ⟨k⟩
theorem nL {L:List HP} (ad:Option Addr) (cap:Nat) (xs:List Lot) (x:Lot) (hl:xs.length≤100000000) (hxs:∀ y∈xs,LotW y) (hx:LotW x) :
  Tri Tryz.prog 300 #[.slice ad xs.length cap,.agg (av x).toArray] (osl av 3 tLot ad cap xs::L) (fun v L'=>∃ ad' cap',v=.slice ad' (bR xs x).length cap'∧L' = osl av 3 tLot ad' cap' (bR xs x)::L):=by
 refine Tri.body (args:=[.slice ad xs.length cap,.agg (av x).toArray]) 39 GI Tryz.func300 rfl rfl rfl (by simp) ?_
 by_cases h0:x.2.2=0
 ·have e:bR xs x=xs:=by unfold bR;rw [if_pos h0]
  rw [e]
  repeat first|refine aa ?_|intro _|refine eM ?_
  exact KX.a6 ai ae ⟨ad,cap,rfl,rfl⟩
 by_cases h1:xs.length=0
 ·have e:bR xs x=xs++[x]:=by unfold bR;rw [if_neg h0,if_neg (fun h=>h.1 h1)]
  rw [e]
  repeat first|refine aa ?_|intro _|refine eM ?_
  refine GO.ef (Ef.a7 (enc:=av) (e:=x) rfl rfl rfl rfl rfl (by rfl) (fI _) ab ab) ac ?_
  rintro _ _ ⟨ad2,cap2,rfl,rfl⟩
  repeat first|refine aa ?_|intro _|refine eM ?_
  exact KX.a6 ai ae ⟨ad2,cap2,rfl,rfl⟩
 have hii:((xs.length:Int) - 1).toNat=xs.length - 1:=ab
 have hlw:=hxs _ (ap (show xs.length - 1<xs.length by omega))
 rw [← hii] at hlw
 repeat first|refine aa ?_|intro _|refine eM ?_
 refine GPW.ef (Ef.a6 (AT x xs[((xs.length:Int) - 1).toNat]! hlw) rfl) ac ?_
 rintro _ _ ⟨rfl,rfl⟩
 by_cases hc:kR x xs[((xs.length:Int) - 1).toNat]!
 ·have hc2:=lcont_iff.1 hc
  rw [aw hc]
  unfold LotW at hlw hx
  repeat first|refine aa ?_|intro _|refine eM ?_
  refine GPW.efu (Ef.f8 (e:=((xs[((xs.length:Int) - 1).toNat]!.1,xs[((xs.length:Int) - 1).toNat]!.2.1,xs[((xs.length:Int) - 1).toNat]!.2.2+x.2.2):Lot)) rfl rfl (by rfl) rfl ab ac) ?_
  rintro _ _ rfl
  have e:bR xs x=xs.set ((xs.length:Int) - 1).toNat (xs[((xs.length:Int) - 1).toNat]!.1,xs[((xs.length:Int) - 1).toNat]!.2.1,xs[((xs.length:Int) - 1).toNat]!.2.2+x.2.2):=by
   unfold bR
   rw [hii] at hc ⊢
   rw [if_neg h0,if_pos ⟨h1,hc⟩]
  rw [e]
  repeat first|refine aa ?_|intro _|refine eM ?_
  exact KX.a6 ai ae ⟨ad,cap,by rw [List.length_set];rfl,rfl⟩
 ·rw [an hc]
  have e:bR xs x=xs++[x]:=by
   unfold bR
   rw [hii] at hc
   rw [if_neg h0,if_neg (fun h=>hc h.2)]
  rw [e]
  repeat first|refine aa ?_|intro _|refine eM ?_
  refine GO.ef (Ef.a7 (enc:=av) (e:=x) rfl rfl rfl rfl rfl (by rfl) (fI _) ab ab) ac ?_
  rintro _ _ ⟨ad2,cap2,rfl,rfl⟩
  repeat first|refine aa ?_|intro _|refine eM ?_
  exact KX.a6 ai ae ⟨ad2,cap2,rfl,rfl⟩
def pc1 (x:Lot) (c:Int):Lot:=(x.1,x.2.1,c)
def pc2 (x:Lot) (c:Int):Lot:=(x.1,x.2.1+c,x.2.2 - c)
def pcF (l:List Lot) (cs:Nat→Int) (k:Nat):Lot:=pc1 l[k]! (cs k)
def pcR (l:List Lot) (cs:Nat→Int) (k:Nat):Lot:=pc2 l[k]! (cs k)
def pcV (l:List Lot) (cs:Nat→Int) (k:Nat):List Value:=if k % 2=0 then [.agg (av (pcF l cs (k / 2))).toArray,.bool true] else [.agg (av (pcR l cs (k / 2))).toArray,.bool false]
def pcVs (l:List Lot) (cs:Nat→Int):List (List Value):=(List.range (2*l.length)).map (pcV l cs)
theorem mu (l:List Lot) (cs:Nat→Int):(pcVs l cs).length=2*l.length:=by simp [pcVs]
theorem uR {l:List Lot} {cs:Nat→Int} {k:Nat} (h:k<(pcVs l cs).length):(pcVs l cs)[k]=pcV l cs k:=by simp [pcVs]
def rx (g:FuncId) (cap:List Value) (n:Nat) (cs:Nat→Int) (C:Nat→HP):Prop:=∀ k,k<n→∀ L:List HP,Tri Tryz.prog g (([]++[Value.int .i64 (k:Int)]++cap:List Value)).toArray (C k::L) (fun v L'=>v=.int .i64 (cs k)∧L' = C (k+1)::L)
abbrev tJ:Nat:=135
abbrev tCnt:Nat:=116
theorem xK (bx bf g:Nat) (cap:List Value) (ad:Option Addr) (c:Nat) (l:List Lot) (cs:Nat→Int) (C:Nat→HP) (hm:l.length≤1000000) (hw:∀ x∈l,LotW x) (hc:∀ k,k<l.length→0≤cs k∧cs k≤l[k]!.2.2) (hC:rx g cap l.length cs C) :
  EF Tryz.prog 365 [.pointer (some ⟨bx,0,none⟩),.pointer (some ⟨bf,0,none⟩)] (pcVs l cs) [obj bx tJ [.slice ad l.length c],obj bf tCnt [.func (.func g) #[] cap.toArray],C 0,isl av 3 ad l] []:=by
 intro i J Jx hy
 rw [mu]
 have hy' : ∀ k (hk:k<2*l.length),YTri Tryz.prog i (pcV l cs k) [J k] (fun v L'=>(v=.bool true∧L' = [J (k+1)])∨(v=.bool false∧L' = [Jx k])):=by
  intro k hk
  have h:=hy k (by rw [mu];exact hk)
  rw [uR] at h
  exact h
 clear hy
 refine Tri.body (args:=[.func (.yield i) #[] #[],.pointer (some ⟨bx,0,none⟩),.pointer (some ⟨bf,0,none⟩)]) 43 Eu Tryz.func365 rfl rfl rfl (by simp) ?_
 repeat first|refine aa ?_|intro _
 refine G.loop (α:=Nat) (fun k=>k≤l.length) (fun k=>[(0,.func (.yield i) #[] #[]),(1,.pointer (some ⟨bx,0,none⟩)),(2,.pointer (some ⟨bf,0,none⟩)),(7,.slice ad l.length c),(8,.int .i64 l.length),(9,.int .i64 (k:Int))]) (fun k=>[J (2*k),obj bx tJ [.slice ad l.length c],obj bf tCnt [.func (.func g) #[] cap.toArray],C k,isl av 3 ad l]) (fun k=>l.length - k) 0 (Nat.zero_le _) aj (Ent.refl _) ?_
 intro k hk
 by_cases hlt:k<l.length
 case neg =>
  have hkn:k=l.length:=ab
  repeat first|refine aa ?_|intro _
  refine KX.a8 ai (Ent.a6 (Ent.nil _)) (.inl ?_)
  rw [hkn]
 have hii:(k:Int).toNat=k:=ab
 have hlw:=hw _ (ap hlt)
 have hck:=hc k hlt
 have hy1:=hy' (2*k) ab
 have hy2:=hy' (2*k+1) ab
 rw [show pcV l cs (2*k)=[.agg (av (pcF l cs k)).toArray,.bool true] by unfold pcV;rw [if_pos ab,show 2*k / 2=k by omega]] at hy1
 rw [show pcV l cs (2*k+1)=[.agg (av (pcR l cs k)).toArray,.bool false] by unfold pcV;rw [if_neg ab,show (2*k+1) / 2=k by omega]] at hy2
 unfold LotW at hlw
 repeat first|refine aa ?_|intro _
 rw [hii]
 refine GO.ent (Ent.at (A:=C k) (Ent.refl _)) ?_
 refine GO.ef (Ef.a8 rfl rfl (hC k hlt _)) ac ?_
 rintro _ _ ⟨rfl,rfl⟩
 repeat first|refine aa ?_|intro _
 refine GO.ent (Ent.at (A:=J (2*k)) (Ent.refl _)) ?_
 ((with_reducible apply GO.a6);refine GO.efR (EfR.yield (hy1) rfl rfl (by repeat (first|exact Ent.refl _|apply Ent.take))) ac ?_)
 rintro _ _ ⟨_,(⟨rfl,rfl⟩|⟨rfl,rfl⟩),hL⟩
 ·simp only [List.cons_append,List.nil_append] at hL;subst hL
  repeat first|refine aa ?_|intro _
  ((with_reducible apply GO.a6);refine GO.efR (EfR.yield (hy2) rfl rfl (by repeat (first|exact Ent.refl _|apply Ent.take))) ac ?_)
  rintro _ _ ⟨_,(⟨rfl,rfl⟩|⟨rfl,rfl⟩),hL⟩
  ·simp only [List.cons_append,List.nil_append] at hL;subst hL
   repeat first|refine aa ?_|intro _
   refine ⟨k+1,ab,ab,?_,?_⟩
   ·rw [show (((k+1:Nat)):Int)=(k:Int)+1 by omega]
    exact aj
   ·rw [show 2*(k+1)=2*k+1+1 by omega]
    exact ae
  ·simp only [List.cons_append,List.nil_append] at hL;subst hL
   repeat first|refine aa ?_|intro _
   exact KX.a6 ai (Ent.a6 (Ent.nil _)) (.inr ⟨2*k+1,rfl⟩)
 ·simp only [List.cons_append,List.nil_append] at hL;subst hL
  repeat first|refine aa ?_|intro _
  exact KX.a6 ai (Ent.a6 (Ent.nil _)) (.inr ⟨2*k,rfl⟩)
def stkA (b:Nat) (xs:List Lot) (x:Option Addr×Nat):List HP:=[obj b tJ [.slice x.1 xs.length x.2],osl av 3 tLot x.1 x.2 xs]
def stkO (b:Nat) (xs:List Lot):HP:=hex fun x=>aX (stkA b xs x)
def divF (l:List Lot) (cs:Nat→Int) (m:Nat):List Lot:=((List.range m).map (pcF l cs)).foldl bR []
def divR (l:List Lot) (cs:Nat→Int) (m:Nat):List Lot:=((List.range m).map (pcR l cs)).foldl bR []
theorem tg (l:List Lot) (cs:Nat→Int) (m:Nat):divF l cs (m+1)=bR (divF l cs m) (pcF l cs m):=by simp [divF,List.range_succ]
theorem nV (l:List Lot) (cs:Nat→Int) (m:Nat):divR l cs (m+1)=bR (divR l cs m) (pcR l cs m):=by simp [divR,List.range_succ]
theorem hZ (l:List Lot) (cs:Nat→Int) (m:Nat):(divF l cs m).length≤m∧(divR l cs m).length≤m:=by
 have h1:=kV ((List.range m).map (pcF l cs)) []
 have h2:=kV ((List.range m).map (pcR l cs)) []
 simp at h1 h2
 exact ⟨h1,h2⟩
theorem pc_w {l:List Lot} {cs:Nat→Int} {k:Nat} (hk:k<l.length) (hw:∀ x∈l,LotW x) (hc:0≤cs k∧cs k≤l[k]!.2.2):LotW (pcF l cs k)∧LotW (pcR l cs k):=by
 have:=hw _ (ap hk)
 unfold LotW at *
 simp only [pcF,pcR,pc1,pc2]
 omega
theorem EB {l:List Lot} {cs:Nat→Int} (hw:∀ x∈l,LotW x) (hc:∀ k,k<l.length→0≤cs k∧cs k≤l[k]!.2.2) (m:Nat) (hm:m≤l.length):(∀ x∈divF l cs m,LotW x)∧∀ x∈divR l cs m,LotW x:=by
 constructor
 ·refine nc (by simp) ?_
  intro x hx
  obtain ⟨k,hk,rfl⟩:=List.mem_map.1 hx
  have hk':=List.mem_range.1 hk
  exact (pc_w ab hw (hc k ab)).1
 ·refine nc (by simp) ?_
  intro x hx
  obtain ⟨k,hk,rfl⟩:=List.mem_map.1 hx
  have hk':=List.mem_range.1 hk
  exact (pc_w ab hw (hc k ab)).2
abbrev As:List Stp:=[.ev 0,.ev 1,.ef 2,.ef 3]
theorem fY {φ ψ:Prop} (k:ψ) (h:Hid ψ→φ:=by intro k;first|((with_reducible apply GO.a6);refine GO.c6 tQ Tryz.func354 rfl rfl rfl rfl (by simp) ac (Hid.out k))|((with_reducible apply GPW.a6);refine GPW.c6 tQ Tryz.func354 rfl rfl rfl rfl (by simp) ac (Hid.out k))|((with_reducible apply GO.a6);refine GO.a7 rfl tQ Tryz.func354 rfl rfl rfl rfl (by simp) ac (Hid.out k))|((with_reducible apply GPW.a6);refine GPW.a8 rfl tQ Tryz.func354 rfl rfl rfl rfl (by simp) ac (Hid.out k))|((with_reducible apply KX.c7);first|refine KX.in0 (.inl rfl) (Hid.out k)|refine KX.in0 (.inr rfl) (Hid.out k)|refine KX.in1 (.inl rfl) rfl (Hid.out k)|refine KX.in2 (.inl rfl) rfl rfl (Hid.out k)|refine KX.in3 (.inl rfl) rfl rfl rfl (Hid.out k)|refine KX.inC (.inl rfl) rfl (by rfl) (Hid.out k)|refine KX.c6 (.inl rfl) rfl (by rfl) rfl (Hid.out k))):φ:=h ⟨k⟩
theorem fX {φ ψ:Prop} (k:ψ) (h:Hid ψ→φ:=by intro k;(with_reducible apply G.a7);first|refine G.a6 (N:=22) (id:=7) As mixed ah (Hid.out k)):φ:=h ⟨k⟩
theorem lw (g:Nat) (cap:List Value) (ad:Option Addr) (c:Nat) (l:List Lot) (cs:Nat→Int) (C:Nat→HP) (hm:l.length≤1000000) (hw:∀ x∈l,LotW x) (hc:∀ k,k<l.length→0≤cs k∧cs k≤l[k]!.2.2) (hC:rx g cap l.length cs C) :
  Tri Tryz.prog 333 #[.slice ad l.length c,.func (.func g) #[] cap.toArray] [C 0,isl av 3 ad l] (fun v L'=>∃ ad1 c1 ad2 c2,v=.tuple #[.slice ad1 (divF l cs l.length).length c1,.slice ad2 (divR l cs l.length).length c2]∧L' = [osl av 3 tLot ad1 c1 (divF l cs l.length),osl av 3 tLot ad2 c2 (divR l cs l.length)]):=by
 refine Tri.body (args:=[.slice ad l.length c,.func (.func g) #[] cap.toArray]) 22 Gs Tryz.func333 rfl rfl rfl (by simp) ?_
 repeat first|refine aa ?_|intro _|refine fX ?_|refine fY ?_
 rename_i b4 b5 bx bf
 refine G.e7 (xK bx bf g cap ad c l cs C hm hw hc hC) rfl Eu ac ?_ (fun k=>[stkO b4 (divF l cs ((k+1) / 2)),stkO b5 (divR l cs (k / 2))]) ?_ ?_ ?_
 ·intro vs hvs
  obtain ⟨k,_,rfl⟩:=List.mem_map.1 hvs
  unfold pcV
  split<;>rfl
 ·simp only [List.cons_append,List.nil_append]
  rw [show divF l cs ((0+1) / 2)=[] from rfl,show divR l cs (0 / 2)=[] from rfl]
  refine Ent.trans ?_ (Ent.e9 (none,0) (f:=stkA b4 []) (Ent.refl _))
  refine Ent.trans ?_ (Ent.append (Ent.refl (stkA b4 [] (none,0))) (Ent.e9 (none,0) (f:=stkA b5 []) (Ent.refl _)))
  simp only [stkA,List.length_nil,List.cons_append,List.nil_append]
  refine Ent.trans (Ent.a7 av 3 tLot) (Ent.trans (Ent.a7 av 3 tLot) ?_)
  exact ae
 ·intro k hk
  have hk2:k<2*l.length:=by rw [mu] at hk;exact hk
  rw [uR]
  obtain ⟨m,hm2⟩:∃ m,m=k / 2:=⟨_,rfl⟩
  have hml:m<l.length:=ab
  obtain ⟨hw1,hw2⟩:=pc_w hml hw (hc m hml)
  have hdl:=hZ l cs m
  have hdl1:=hZ l cs (m+1)
  have hdw:=EB hw hc m ab
  unfold pcV
  by_cases hev:k % 2=0
  ·rw [if_pos hev,← hm2,show (k+1) / 2=m by omega,show (k+1+1) / 2=m+1 by omega,tg]
   generalize divF l cs m=T at hdl hdw
   generalize divR l cs m=R
   generalize pcF l cs m=x at hw1
   show G _ _ _ ((12,.bool true)::(11,.agg (av x).toArray)::_) _ _
   refine G.c6 (f:=stkA b4 T) ?_
   rintro ⟨ad1,c1⟩
   simp only [stkA,List.cons_append,List.nil_append]
   repeat first|refine aa ?_|intro _|refine fX ?_|refine fY ?_
   refine GO.ent (Ent.at (A:=osl av 3 tLot ad1 c1 T) (Ent.refl _)) ?_
   refine GO.ef (Ef.a6 (nL ad1 c1 T x ab hdw.1 hw1) rfl) ac ?_
   rintro _ _ ⟨ad2,c2,rfl,rfl⟩
   repeat first|refine aa ?_|intro _|refine fX ?_|refine fY ?_
   refine KX.round ?_
   refine Ent.trans ?_ (Ent.e9 (ad2,c2) (f:=stkA b4 (bR T x)) (Ent.refl _))
   simp only [stkA,List.cons_append,List.nil_append]
   exact ae
  ·rw [if_neg hev,← hm2,show (k+1) / 2=m+1 by omega,show (k+1+1) / 2=m+1 by omega,nV]
   generalize divF l cs (m+1)=T
   generalize divR l cs m=R at hdl hdw
   generalize pcR l cs m=x at hw2
   show G _ _ _ ((12,.bool false)::(11,.agg (av x).toArray)::_) _ _
   refine G.ent Ent.swap ?_
   refine G.c6 (f:=stkA b5 R) ?_
   rintro ⟨ad1,c1⟩
   simp only [stkA,List.cons_append,List.nil_append]
   repeat first|refine aa ?_|intro _|refine fX ?_|refine fY ?_
   refine GO.ent (Ent.at (A:=osl av 3 tLot ad1 c1 R) (Ent.refl _)) ?_
   refine GO.ef (Ef.a6 (nL ad1 c1 R x ab hdw.2 hw2) rfl) ac ?_
   rintro _ _ ⟨ad2,c2,rfl,rfl⟩
   repeat first|refine aa ?_|intro _|refine fX ?_|refine fY ?_
   refine KX.round ?_
   refine Ent.trans ?_ (Ent.swap (A:=stkO b5 (bR R x)))
   refine Ent.trans ?_ (Ent.e9 (ad2,c2) (f:=stkA b5 (bR R x)) (Ent.refl _))
   simp only [stkA,List.cons_append,List.nil_append]
   exact ae
 ·rw [mu,show (2*l.length+1) / 2=l.length by omega,show 2*l.length / 2=l.length by omega]
  generalize divF l cs l.length=T
  generalize divR l cs l.length=R
  simp only [List.append_nil]
  refine KX.a7 (KX.e9 ?_)
  refine G.c6 (f:=stkA b4 T) ?_
  rintro ⟨ad1,c1⟩
  refine G.ent (L':=stkO b5 R::stkA b4 T (ad1,c1)) (Ent.perm (by simp only [stkA,List.cons_append,List.nil_append];exact (List.Perm.cons _ (List.Perm.swap _ _ _)).trans (List.Perm.swap _ _ _))) ?_
  refine G.c6 (f:=stkA b5 R) ?_
  rintro ⟨ad2,c2⟩
  simp only [stkA,List.cons_append,List.nil_append]
  repeat first|refine aa ?_|intro _|refine fX ?_|refine fY ?_
  refine KX.a6 (vs:=[.slice ad1 T.length c1,.slice ad2 R.length c2]) (ResOk.a6 rfl (ResOk.a6 rfl ResOk.nil)) ?_ ⟨ad1,c1,ad2,c2,rfl,rfl⟩
  exact ae
end
section
def fuR (l:List Lot) (m:Int):Nat→Int
 | 0=>m
 | k+1=>fuR l m k - min (fuR l m k) l[k]!.2.2
def fuC (l:List Lot) (m:Int) (k:Nat):Int:=min (fuR l m k) l[k]!.2.2
theorem qU {l:List Lot} {m:Int} (h0:0≤m) (hw:∀ x∈l,LotW x):∀ k,k≤l.length→0≤fuR l m k∧fuR l m k≤m
 | 0,_=>⟨h0,Int.le_refl _⟩
 | k+1,hk=>by
  have ih:=qU h0 hw k ab
  have:=hw _ (ap (show k<l.length by omega))
  unfold LotW at this
  simp only [fuR]
  omega
theorem lI {l:List Lot} {m:Int} (h0:0≤m) (hw:∀ x∈l,LotW x) (k:Nat) (hk:k<l.length):0≤fuC l m k∧fuC l m k≤l[k]!.2.2:=by
 have h1:=qU h0 hw k ab
 have:=hw _ (ap hk)
 unfold LotW at this
 unfold fuC
 omega
abbrev tInt:Nat:=3
def fuA (bn bl:Nat) (ad:Option Addr) (c:Nat) (l:List Lot) (m:Int) (k:Nat):List HP:=[obj bn tInt [.int .i64 (fuR l m k)],obj bl tJ [.slice ad l.length c],isl av 3 ad l]
abbrev Ar:List Stp:=[.ev 0,.ev 1,.ev 2,.ev 3,.ev 4,.ev 5,.ev 6,.ev 7]
theorem sV (bn bl:Nat) (ad:Option Addr) (c:Nat) (l:List Lot) (m:Int) (hm:l.length≤1000000) (h0:0≤m) (h1:m≤1099511627776) (hw:∀ x∈l,LotW x) :
  rx 349 [.pointer (some ⟨bn,0,none⟩),.pointer (some ⟨bl,0,none⟩)] l.length (fuC l m) (fun k=>aX (fuA bn bl ad c l m k)):=by
 intro k hk L
 have hii:(k:Int).toNat=k:=ab
 have hb:=qU h0 hw k ab
 have hcb:=lI h0 hw k hk
 have hlw:=hw _ (ap hk)
 unfold LotW at hlw
 unfold fuC at hcb
 rw [← hii] at hlw hcb
 rw [hii] at hcb
 refine Tri.body (args:=[.int .i64 (k:Int),.pointer (some ⟨bn,0,none⟩),.pointer (some ⟨bl,0,none⟩)]) 17 Go Tryz.func349 rfl rfl rfl (by simp) ?_
 refine G.ent Ent.openS ?_
 simp only [fuA,List.cons_append,List.nil_append]
 repeat first|refine aa ?_|intro _|((with_reducible apply G.a7);first|refine G.a6 (N:=17) (id:=1) Ar mixed ah ?_)
 rw [hii]
 exact KX.a6 ai (Ent.e7 (A:=[_,_,_]) (L:=L)) ⟨rfl,rfl⟩
theorem ll {L:List HP} (ad:Option Addr) (n c:Nat) (xs:List Lot) [Rds L ad Lot av 3 xs] (hn:n=xs.length) (hb:xs.length≤4096) (hx:∀ l∈xs,LotOk l) :
  Tri Tryz.prog 294 #[.slice ad n c] L (fun v L'=>v=.int .i64 (lsum xs)∧L' = L):=by
 refine Tri.body (args:=[.slice ad n c]) 8 GK Tryz.func294 rfl rfl rfl (by simp) ?_
 repeat first|refine aa ?_|intro _
 refine GO.ef (Ef.a6 (ie ad n c xs hn hb hx) rfl) ac ?_
 rintro _ L ⟨rfl,rfl⟩
 repeat first|refine aa ?_|intro _
 refine GO.ef (Ef.a6 (lg ad n c xs hn hb hx) rfl) ac ?_
 rintro _ L ⟨rfl,rfl⟩
 repeat first|refine aa ?_|intro _
 exact KX.a6 ai (Ent.refl _) ⟨rfl,rfl⟩
theorem gU {φ ψ:Prop} (k:ψ) (h:Hid ψ→φ:=by intro k;first|((with_reducible apply GO.a6);refine GO.c6 il Tryz.func330 rfl rfl rfl rfl (by simp) ac (Hid.out k))|((with_reducible apply GPW.a6);refine GPW.c6 il Tryz.func330 rfl rfl rfl rfl (by simp) ac (Hid.out k))|((with_reducible apply GO.a6);refine GO.a7 rfl il Tryz.func330 rfl rfl rfl rfl (by simp) ac (Hid.out k))|((with_reducible apply GPW.a6);refine GPW.a8 rfl il Tryz.func330 rfl rfl rfl rfl (by simp) ac (Hid.out k))|((with_reducible apply KX.c7);first|refine KX.in0 (.inl rfl) (Hid.out k)|refine KX.in0 (.inr rfl) (Hid.out k)|refine KX.in1 (.inl rfl) rfl (Hid.out k)|refine KX.in2 (.inl rfl) rfl rfl (Hid.out k)|refine KX.in3 (.inl rfl) rfl rfl rfl (Hid.out k)|refine KX.inC (.inl rfl) rfl (by rfl) (Hid.out k)|refine KX.c6 (.inl rfl) rfl (by rfl) rfl (Hid.out k))):φ:=h ⟨k⟩
theorem zg {L:List HP} (ad:Option Addr) (c:Nat) (xs:List Lot) (n:Int) (mixed:Bool) (hmx:mixed=false) (hb:xs.length≤4096) (hx:∀ l∈xs,LotOk l) (hn0:0≤n) (hn1:n≤1099511627776) :
  Tri Tryz.prog 316 #[.slice ad xs.length c,.int .i64 n,.bool mixed] (isl av 3 ad xs::L) (fun v L' =>
   (lsum xs<n∧v=.tuple #[.slice none 0 0,.slice none 0 0,.int .i64 10]∧L' = isl av 3 ad xs::L) ∨
   (n≤lsum xs∧∃ ad1 c1 ad2 c2,v=.tuple #[.slice ad1 (divF xs (fuC xs n) xs.length).length c1,.slice ad2 (divR xs (fuC xs n) xs.length).length c2,.int .i64 0]∧L' = osl av 3 tLot ad1 c1 (divF xs (fuC xs n) xs.length)::osl av 3 tLot ad2 c2 (divR xs (fuC xs n) xs.length)::isl av 3 ad xs::L)):=by
 subst hmx
 have hw:∀ x∈xs,LotW x:=fun x h=>(hx x h).w
 refine Tri.body (args:=[.slice ad xs.length c,.int .i64 n,.bool false]) 74 Bf Tryz.func316 rfl rfl rfl (by simp) ?_
 repeat first|refine aa ?_|intro _|refine gU ?_
 refine GO.ef (Ef.a6 (ie ad xs.length c xs rfl hb hx) rfl) ac ?_
 rintro _ _ ⟨rfl,rfl⟩
 repeat first|refine aa ?_|intro _|refine gU ?_
 refine GO.ef (Ef.a6 (ll ad xs.length c xs rfl hb hx) rfl) ac ?_
 rintro _ _ ⟨rfl,rfl⟩
 by_cases hs:lsum xs<n
 ·repeat first|refine aa ?_|intro _|refine gU ?_
  exact KX.a6 ai (Ent.refl _) (.inl ⟨hs,rfl,rfl⟩)
 repeat first|refine aa ?_|intro _|refine gU ?_
 rename_i bl bn
 refine GO.ent (L':=aX (fuA bn bl ad c xs n 0)::isl av 3 ad xs::isl av 3 ad xs::L) ?_ ?_
 ·refine Ent.trans ?_ Ent.e7
  simp only [fuA,fuR,List.cons_append,List.nil_append]
  refine (Ent.at (A:=isl av 3 ad xs) (Ent.dup (ix _ _ _ _))).trans ?_
  refine (Ent.dup (ix _ _ _ _)).trans ?_
  exact ae
 (first|refine GO.ef (Ef.call (lw _ _ ad c xs (fuC xs n) (fun k=>aX (fuA bn bl ad c xs n k)) ab hw (lI hn0 hw) (sV bn bl ad c xs n ab hn0 hn1 hw)) rfl (by repeat (first|exact Ent.refl _|apply Ent.take))) ac ?_)
 rintro _ _ ⟨_,⟨ad1,c1,ad2,c2,rfl,rfl⟩,hL⟩
 simp only [List.cons_append,List.nil_append] at hL;subst hL
 repeat first|refine aa ?_|intro _|refine gU ?_
 exact KX.a6 ai (Ent.refl _) (.inr ⟨ab,ad1,c1,ad2,c2,rfl,rfl⟩)
end
section
structure MvM where
 frm:Int
 to:Int
 item:Int
 n:Int
 parts:List Lot
 deriving Inhabited,DecidableEq
structure MvV where
 m:MvM
 pad:Option Addr
 pcap:Nat
 deriving Inhabited
def aJ (m:MvV):List Value:=[.int .i64 m.m.frm,.int .i64 m.m.to,.int .i64 m.m.item,.int .i64 m.m.n,.slice m.pad m.m.parts.length m.pcap]
theorem ge (t:MvV):∀ u∈aJ t,u.oneCell' = true:=by simp [aJ,Value.oneCell']
instance:EncC aJ:=⟨ge⟩
abbrev mvP (m:MvV):HP:=isl av 3 m.pad m.m.parts
theorem kd (m:MvV):PersM (mvP m):=bB _ _ _ _
abbrev tMv:Nat:=137
def mv0:MvV:=⟨⟨0,0,0,0,[]⟩,none,0⟩
theorem vL {L:List HP} (m:MvV) (hl:m.m.parts.length≤1000000) :
  Tri Tryz.prog 253 #[.agg (aJ m).toArray] (mvP m::L) (fun v L'=>∃ m',v=.agg (aJ m').toArray∧m'.m=m.m∧L' = mvP m'::mvP m::L):=by
 obtain ⟨⟨frm,to,item,n,parts⟩,pad,pcap⟩:=m
 dsimp only at hl
 refine Tri.body (args:=[.agg (aJ ⟨⟨frm,to,item,n,parts⟩,pad,pcap⟩).toArray]) 8 Hk Tryz.func253 rfl rfl rfl (by simp) ?_
 repeat first|refine aa ?_|intro _
 refine GO.ef (Ef.a6 (jV pad parts.length pcap parts rfl ab) rfl) ac ?_
 rintro _ _ ⟨ad',cap',rfl,rfl⟩
 repeat first|refine aa ?_|intro _
 refine KX.a6 (by exact ResOk.cell rfl (by rfl) (ResOk.nil)) ?_ ⟨⟨⟨frm,to,item,n,parts⟩,ad',cap'⟩,rfl,rfl,rfl⟩
 refine (Ent.frz ad').trans ?_
 exact ae
theorem dh {α:Type} [Inhabited α] {l:List α} {i:Nat} {x:α} (h:i<l.length):(l.set i x).take (i+1)=l.take i++[x]:=by
 rw [List.take_succ_eq_append_getElem (by simpa using h),List.take_set_of_le (Nat.le_refl _)]
 simp
theorem vD {L:List HP} (ad:Option Addr) (c:Nat) (ms:List MvV) (hl:ms.length≤64) (hp:∀ m∈ms,m.m.parts.length≤1000000) :
  Tri Tryz.prog 252 #[.slice ad ms.length c,.func (.func 253) #[] #[]] (isl aJ 5 ad ms::allP mvP ms::L) (fun v L'=>∃ ad' c' ms',v=.slice ad' ms'.length c'∧ms'.map (·.m)=ms.map (·.m)∧L' = isl aJ 5 ad' ms'::allP mvP ms'::isl aJ 5 ad ms::allP mvP ms::L):=by
 refine Tri.body (args:=[.slice ad ms.length c,.func (.func 253) #[] #[]]) 29 Hl Tryz.func252 rfl rfl rfl (by simp) ?_
 by_cases h0:ms.length=0
 ·have e:ms=[]:=List.eq_nil_of_length_eq_zero h0
  subst e
  repeat first|refine aa ?_|intro _
  exact KX.a6 ai ((Ent.c7 mvP).trans (Ent.c8 aJ 5 none)) ⟨none,0,[],rfl,rfl,rfl⟩
 repeat first|refine aa ?_|intro _
 refine GO.ef (Ef.d9 aJ mv0 rfl rfl rfl ab ab ab ab) ac ?_
 rintro _ _ ⟨bs,rfl,rfl⟩
 rw [show (ms.length:Int).toNat=ms.length by omega]
 repeat first|refine aa ?_|intro _
 refine G.loop (α:=Nat×List MvV) (fun z=>z.1≤ms.length∧z.2.length=ms.length∧(z.2.take z.1).map (·.m)=(ms.take z.1).map (·.m)) (fun z=>[(1,.func (.func 253) #[] #[]),(5,.slice (some ⟨bs,0,none⟩) ms.length ms.length),(14,.slice ad ms.length c),(15,.int .i64 (ms.length:Int)),(16,.int .i64 (z.1:Int))])
  (fun z=>osl aJ 5 tMv (some ⟨bs,0,none⟩) ms.length z.2::allP mvP (z.2.take z.1)::isl aJ 5 ad ms::allP mvP ms::L) (fun z=>ms.length - z.1) (0,List.replicate ms.length mv0) ⟨Nat.zero_le _,by simp,by simp⟩ aj ?_ ?_
 ·dsimp only
  rw [List.take_zero]
  refine (Ent.c7 mvP).trans ?_
  exact ae
 rintro ⟨i,zs⟩ ⟨hi,hzl,hze⟩
 dsimp only at hi hzl hze ⊢
 by_cases hlt:i<ms.length
 case neg =>
  have hie:i=ms.length:=ab
  subst hie
  rw [List.take_of_length_le ab,List.take_of_length_le ab] at hze
  rw [List.take_of_length_le (show zs.length≤ms.length by omega)]
  repeat first|refine aa ?_|intro _
  refine KX.a6 ai (Ent.freezeSl) ⟨some ⟨bs,0,none⟩,ms.length,zs,by rw [hzl];rfl,hze,rfl⟩
 have hii:(i:Int).toNat=i:=ab
 have hmm:ms[i]!∈ms:=ap hlt
 repeat first|refine aa ?_|intro _
 rw [hii]
 refine GO.ent (Ent.at (A:=allP mvP ms) (Ent.a8 (x:=ms[i]!) hmm)) ?_
 refine GO.ef (Ef.a8 rfl rfl (vL ms[i]! (hp _ hmm))) ac ?_
 rintro _ _ ⟨m',rfl,hm',rfl⟩
 repeat first|refine aa ?_|intro _
 refine GO.efu (Ef.d8 (e:=m') rfl rfl (by rfl) (by rfl) (ge _) ab) ?_
 rintro _ _ rfl
 rw [hii]
 repeat first|refine aa ?_|intro _
 refine ⟨(i+1,zs.set i m'),⟨by dsimp only;omega,by dsimp only;simp;omega,?_⟩,by dsimp only;omega,?_,?_⟩
 ·dsimp only
  rw [dh ab,List.take_succ_eq_append_getElem hlt,List.map_append,List.map_append,hze,← getElem!_of hlt]
  simp [hm']
 ·dsimp only
  rw [show ((i+1:Nat):Int)=(i:Int)+1 by omega]
  exact aj
 ·dsimp only
  rw [dh ab]
  refine Ent.a6 ?_
  refine Ent.trans (B:=allP mvP (zs.take i)::mvP m'::isl aJ 5 ad ms::allP mvP ms::L) ae ?_
  exact (Ent.a6 (Ent.d9 kd)).trans (Ent.e8 kd)
structure StM where
 id:Int
 kind:Int
 actor:Int
 tick:Int
 rule:Int
 times:Int
 moves:List MvM
 deriving Inhabited
structure StV where
 id:Int
 kind:Int
 actor:Int
 tick:Int
 rule:Int
 times:Int
 moves:List MvV
 mad:Option Addr
 mcap:Nat
 deriving Inhabited
def StV.m (s:StV):StM:=⟨s.id,s.kind,s.actor,s.tick,s.rule,s.times,s.moves.map (·.m)⟩
def aK (s:StV):List Value:=[.int .i64 s.id,.int .i64 s.kind,.int .i64 s.actor,.int .i64 s.tick,.int .i64 s.rule,.int .i64 s.times,.slice s.mad s.moves.length s.mcap]
theorem mL (t:StV):∀ u∈aK t,u.oneCell' = true:=by simp [aK,Value.oneCell']
abbrev stM (s:StV):HP:=isl aJ 5 s.mad s.moves
abbrev stP (s:StV):HP:=allP mvP s.moves
theorem tM (s:StV):PersM (stM s):=bB _ _ _ _
theorem vK {L:List HP} (s:StV) (hl:s.moves.length≤64) (hp:∀ m∈s.moves,m.m.parts.length≤1000000) :
  Tri Tryz.prog 164 #[.agg (aK s).toArray] (stM s::stP s::L) (fun v L'=>∃ s',v=.agg (aK s').toArray∧s'.m=s.m∧L' = stM s'::stP s'::stM s::stP s::L):=by
 obtain ⟨i0,i1,i2,i3,i4,i5,ms,mad,mcap⟩:=s
 dsimp only at hl hp
 refine Tri.body (args:=[.agg (aK ⟨i0,i1,i2,i3,i4,i5,ms,mad,mcap⟩).toArray]) 8 IC Tryz.func164 rfl rfl rfl (by simp) ?_
 repeat first|refine aa ?_|intro _
 refine GO.ent (Ent.at (A:=isl aJ 5 mad ms) (Ent.a6 (Ent.at (A:=allP mvP ms) (Ent.refl _)))) ?_
 refine GO.ef (Ef.a6 (vD mad mcap ms hl hp) rfl) ac ?_
 rintro _ _ ⟨ad',c',ms',rfl,hms,rfl⟩
 repeat first|refine aa ?_|intro _
 refine KX.a6 (by exact ResOk.cell rfl (by rfl) (ResOk.nil)) ?_ ⟨⟨i0,i1,i2,i3,i4,i5,ms',ad',c'⟩,rfl,by simp only [StV.m,hms],rfl⟩
 exact ae
end
end Go.Proofs.YtfmgkkofledkbaaGreatDoor
