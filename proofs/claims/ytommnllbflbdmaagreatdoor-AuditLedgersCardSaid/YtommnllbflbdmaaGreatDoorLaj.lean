/- Lemmas. -/
import Derived.Test.YtommnllbflbdmaaGreatDoorLT
import Derived.Test.YtommnllbflbdmaaGreatDoorLV20
import Derived.Sort.Grow
import Derived.Lib.SlicesCompact
set_option linter.all false
namespace Go.Proofs.YtommnllbflbdmaaGreatDoor
open Go.V
instance:TyIS ah 44 3:=TyIS.of ap ap ap ap ap
instance:TyIS ah 46 3:=TyIS.of ap ap ap ap ap
instance:TyIS ah 91 3:=TyIS.of ap ap ap ap ap
instance:TyIS ah 133 2:=TyIS.of ap ap ap ap ap
instance:TyArr ah 116 2 3 1:=⟨by kernel_rfl,by kernel_rfl⟩
instance:TyArr ah 359 128 5 1:=⟨by kernel_rfl,by kernel_rfl⟩
instance:TyG ah 101 116 72 (.slice none 0 0):=⟨by kernel_rfl,by kernel_rfl⟩
instance:TyG ah 102 3 3 (ab 0):=⟨by kernel_rfl,by kernel_rfl⟩
instance:KeyT ah 3 kvI:=keyI
instance:TyG ah 103 3 72 (.slice none 0 0):=⟨by kernel_rfl,by kernel_rfl⟩
instance:TyG ah 115 116 3 (ab 0):=⟨by kernel_rfl,by kernel_rfl⟩
instance:TyG ah 124 133 72 (.slice none 0 0):=⟨by kernel_rfl,by kernel_rfl⟩
instance:KeyT ah 133 kvP:=keyP
instance:TyG ah 304 9 4 (.bool false):=⟨by kernel_rfl,by kernel_rfl⟩
instance:KeyT ah 9 kvS:=keyS
end Go.Proofs.YtommnllbflbdmaaGreatDoor
namespace Go.V
section
section
variable {P:Program}{N:Nat}{env:Env}{L:LH}{ty:TypeId}{v:Value}
theorem Ev.m5{t E:TypeId}{x y:Operand}{a b:Int}[ht:TyArr P t 2 E 1][hz:ZeroT P t [ab 0,ab 0]](hx:evE env x=some (ab a))(hy:evE env y=some (ab b)) :
  Ev P L env (.build t #[(0,x),(1,y)]) ty (.agg #[ab a,ab b]) :=
 Ev.mk (fun θ R ρ w ea s _ _ _ _=>by
  obtain⟨z0,h1,h2⟩:=hz.run w;have c1:(Value.int .i64 a).cells=#[ab a]:=rfl;have c2:(Value.int .i64 b).cells=#[ab b]:=rfl;simp[execOp,aO ea hx,aO ea hy,Instr.build,Sem.run_bind,h1,Result.andThen_ok,run_underlying ht.under,ht.sizeOf_run,h2,Instr.fill,c1,c2])
end
end
section
open Go.Sort
theorem uB{d:List Int}{cur:Array Value}{m:Nat}(hm:m≤d.length)(hc:d.length≤cur.size):(putCells (Value.int .i64) 0 d.toArray cur).toList.take (m*1)=(d.take m).flatMap (encZ .i64):=by
 rw[mG,Nat.mul_one];apply gI;intro i;by_cases hi:i<m
 ·have h1:i<d.length:=ac;have h2:i<cur.size:=ac;rw[List.getElem?_take,if_pos hi];simp[putCells,h1,h2,hi]
 ·rw[List.getElem?_take,if_neg hi];simp;omega
theorem Sat.putRow{θ:Th}{g E:Nat}{cur:Array Value}{R:LH}{w:World}{d:Array Int}{n:Nat}{os:Array Obj}(s:Sat θ (own g (.cells cur E (0,0))::R) w) :
  Sat θ (own g (.cells (putCells (Value.int .i64) 0 d cur) E (0,0))::R) (grow (Sort.putRow (Value.int .i64) (Sort.ahead w n) g 0 d) os):=by
 have hb:=s.own_heap;have hlt:g<w.heap.size:=(Array.getElem?_eq_some_iff.1 hb).1;refine s.update ⟨s.1.tape,s.1.os,s.1.output,cB s.1.drawn (dQ _ _)⟩ ?_ ?_
 ·show(w.heap.modify g (onCells (putCells (Value.int .i64) 0 d))++os)[g]? = _;rw[Array.getElem?_append_left (by simpa using hlt),Array.getElem?_modify,if_pos rfl,hb];rfl
 ·intro k x hk hx;have hklt:k<w.heap.size:=(Array.getElem?_eq_some_iff.1 hx).1;show(w.heap.modify g (onCells (putCells (Value.int .i64) 0 d))++os)[k]? = _;rw[Array.getElem?_append_left (by simpa using hklt),Array.getElem?_modify,if_neg (fun e=>hk e.symm),hx]
theorem Dh{g E:Nat}{cur:Array Value}{xs:List Int}{w:World}(hb:w.heap[g]? = some (.cells cur E (0,0)))(ht:cur.toList.take (xs.length*1)=xs.flatMap (encZ .i64)):Holds (Value.int .i64) w g 0 xs.toArray:=by
 intro j hj;have hj' : j<xs.length:=by simpa using hj
 refine⟨?_,by simp[World.frozen?,hb]⟩;rw[de,el hb];have h:(cur.toList.take (xs.length*1))[j]? = (xs.flatMap (encZ .i64))[j]?:=by rw[ht]
 rw[mG,List.getElem?_take,if_pos ac] at h;simp[hj'] at h;simp[hj',h]
theorem Tri.e8{P:Program}{f:FuncId}{E cap:Nat}{ad:OA}{xs ys:List Int}{L:LH}(he:Enters P f)(hlen:ys.length=xs.length)(hsz:xs.length<4611686018427387904)
  (h0:xs.length=0→∀w,Calls P f #[.slice ad 0 cap] w fun e w'=>e=.returned (.tuple #[])∧w' = w)
  (h1:∀blk w,Holds (Value.int .i64) w blk 0 xs.toArray→blk<w.heap.size→Calls P f #[.slice (some ⟨blk,0,none⟩) xs.length cap] w fun e w'=>e=.returned (.tuple #[])∧∃n os,w' = grow (Sort.putRow (Value.int .i64) (Sort.ahead w n) blk 0 ys.toArray) os) :
  Tri P f #[.slice ad xs.length cap] (osl (encZ .i64) 1 E ad cap xs::L) (fun v L'=>v=.tuple #[]∧L' = osl (encZ .i64) 1 E ad cap ys::L):=by
 refine⟨he,fun θ R w s=>?_⟩;by_cases hx:xs.length=0
 ·have e1:xs=[]:=aW hx;have e2:ys=[]:=aW ac;subst e1 e2;refine(h0 rfl w).mono ?_;rintro e w' ⟨rfl,rfl⟩;exact⟨_,_,rfl,⟨rfl,rfl⟩,s⟩
 obtain⟨a1,a2,a3,a4⟩:=Sat.osl_parts (L:=L++R) s;rcases a4 with⟨rfl,rfl⟩|⟨g,cur,rfl,b1,b2,b3⟩
 ·omega
 have hb:=b3.own_heap;refine(h1 g w (Dh hb b2) (Array.getElem?_eq_some_iff.1 hb).1).mono ?_;rintro e w' ⟨rfl,n,os,rfl⟩;refine⟨_,_,rfl,⟨rfl,rfl⟩,?_⟩;refine Sat.osl_mk (L:=L++R) (Sat.putRow b3) (fun _ _=>rfl) ac a3 ?_ ?_
 ·simp[putCells,b1]
 ·rw[uB (aB _) (by rw[b1];omega),bG]
end
section
section fv
variable {P:Program}{N:Nat}{env:Env}{L:LH}{K:Post}{ty:TypeId}
def Fm(P:Program)(gf:FuncId)(cap:LV)(vals:List (LV))(Lg Lx:LH):Prop :=
 ∀(l:Nat) (J Jx:Nat→HP),(∀k (hk:k<vals.length),YTri P l vals[k] [J k] (fun v L'=>(v=.bool true∧L' = [J (k+1)])∨(v=.bool false∧L' = [Jx k]))) →
  Tri P gf (.func (.yield l) #[] #[]::cap).toArray (J 0::Lg) (fun _ L'=>L' = J vals.length::Lx∨∃k,L' = Jx k::Lx)
theorem G.g7{g:Operand}{ps:Array Tmp}{assign body:Code}{gf:FuncId}{cap:LV}{vals:List (LV)}{Lg Lx:LH}(it:Fm P gf cap vals Lg Lx)(hg:evE env g=some (.func (.func gf) #[] cap.toArray))
  (hen:Enters P gf) (hps:∀p∈ps,p<N) (hlen:∀vs∈vals,vs.length=ps.size) (I:Nat→LH) (hl:Ent L (I 0++Lg))
  (hbody:∀k (hk:k<vals.length),G P N assign (penv env (ps.toList.zip vals[k])) (I k) (Post.seq (fun env' L'=>G P N body env' L' (uZ K env Lx (I (k+1)))) (fun _ _ _=>False)))
  (hdone:K .normal env (I vals.length++Lx)):G P N (.rangeFunc g ps assign body) env L K:=by
 intro r θ Y a w hr i;obtain⟨M,ea,hm,s⟩:=i;have s0:Sat θ (I 0++Lg++(mkH M++Y)) w:=hl θ _ w s;-- what is the same in both cases
 have main:∀(fn:FuncId) (l D:Nat) (mark:List Nat) (w₁:World),(Instr.enterLoop fn a.tmps ps assign body r).run P w=.ok (l,mkD mark) w₁ →
   Sat θ (own l (.loop { state:=.ready,pending:=none,fn,tmps:=a.tmps,params:=ps,assign,body,defers:=D })::(mkH mark++(I 0++Lg++(mkH M++Y)))) w₁ →
   ∃(l:Nat) (mark:List Deferred) (w₁:World) (d:Deferred) (w₁' : World) (f:FuncId) (args:Array Value) (w₂:World),
   (Instr.enterLoop fn a.tmps ps assign body (FW r).round).run P w=.ok (l,mark) w₁ ∧
   (resolve a.eval (rangeCall g l) 0).run P w₁=.ok d w₁' ∧
   (∀f',Target.leads P w₁' d.target d.args=some f'→(FW r).fn f') ∧
   (invoke d.target d.args).run P w₁' = .ok (.enter f args) w₂ ∧
   ((FW r).depth.isSome=true→1≤0) ∧
   CallsIn (FW r) (0 - 1) P f args w₂ (rangePost (FW r) 0 P l (QK θ Y N K) { a with defers:=mark++a.defers }):=by
  intro fn l D mark w₁ he s1;obtain⟨rec,hrec⟩:∃rec:Loop,rec={ state:=.ready,pending:=none,fn,tmps:=a.tmps,params:=ps,assign,body,defers:=D }:=⟨_,rfl⟩;rw[←hrec] at s1;have hst:rec.state=.ready:=by rw[hrec]
  have hpe:rec.pending=none:=by rw[hrec]
  have hy:∀k (hk:k<vals.length),YTri P l vals[k] [cL (own l (.loop rec)::I k)] (fun v L'=>(v=.bool true∧L' = [cL (own l (.loop rec)::I (k+1))])∨(v=.bool false∧L' = [hex fun x:Code×LH=>cL (dy (iV K env Lx x.1 x.2)::own l (.loop { rec with state:=.done,pending:=some x.1 })::x.2)])):=by
   intro k hk;refine rS hst hpe (by rw[hrec];exact hlen _ (eQ _)) (by rw[hrec];exact hps) (env:=env) ?_ ?_
   ·rw[hrec];exact⟨ea.size,ea.at_⟩
   ·rw[hrec];exact hbody k hk
  have ht:=it l (fun k=>cL (own l (.loop rec)::I k)) (fun _=>hex fun x:Code×LH=>cL (dy (iV K env Lx x.1 x.2)::own l (.loop { rec with state:=.done,pending:=some x.1 })::x.2)) hy;have hga:a.eval g=.func (.func gf) #[] cap.toArray:=aO ea.agr hg;refine⟨l,mkD mark,w₁,{ target:=.fn (.func gf) cap.toArray,args:=#[.func (.yield l) #[] #[]] },w₁,gf,(.func (.yield l) #[] #[]::cap).toArray,w₁,he,?_,fun _ _=>trivial,?_,(fun h=>by cases h),od ?_⟩
  ·simp only[resolve,Deferred.ofValue,hga];simp[Act.eval]
  ·have:=hen (.func (.yield l) #[] #[]::cap).toArray w₁
   simpa [invoke] using this
  have s2:Sat θ (cL (own l (.loop rec)::I 0)::Lg++(mkH mark++(mkH M++Y))) w₁:=by
   refine Sat.d7 (A:=own l (.loop rec)::I 0) (s1.perm ?_);simp only[ax];refine List.Perm.cons _ ?_;rw[aH];refine perm_front.trans ?_;refine List.Perm.append_left _ ?_;exact perm_front
  refine(ht.calls θ _ w₁ s2).mono ?_;rintro e w₂ ⟨v,L',rfl,hL',s3⟩;rcases hL' with rfl|⟨k,rfl⟩
  ·have s4:Sat θ (own l (.loop rec)::(I vals.length++(Lx++(mkH mark++(mkH M++Y))))) w₂:=Sat.ofStars (A:=own l (.loop rec)::I vals.length) s3;have hh:=s4.own_heap;refine⟨none,_,(by rw[←hpe];exact kZ hh (by rw[hst];simp)),?_⟩;have s5:=(Sat.d8 (rec':={ rec with state:=.exhausted }) s4).tail;refine⟨env,I vals.length++Lx,⟨mark++M,⟨ea.size,ea.at_⟩,by simp[mkD,hm],?_⟩,hdone⟩;have e:mkH (mark++M)++Y=mkH mark++(mkH M++Y):=by simp[mkH]
   rw[e,aH];exact s5
  ·obtain⟨⟨c,L₂⟩,s4⟩:=Sat.ofHex (L:=Lx++(mkH mark++(mkH M++Y))) s3;have s5:Sat θ (dy (iV K env Lx c L₂)::(own l (.loop { rec with state:=.done,pending:=some c })::(L₂++(Lx++(mkH mark++(mkH M++Y)))))) w₂:=Sat.ofStars (A:=dy (iV K env Lx c L₂)::own l (.loop { rec with state:=.done,pending:=some c })::L₂) s4;have hj:=s5.ofPure;have s6:=s5.tail;have hh:=s6.own_heap;have s7:=(Sat.d8 (rec':={ ({ rec with state:=.done,pending:=some c }:Loop) with state:=.exhausted }) s6).tail;refine⟨some c,_,kZ hh (by simp),?_⟩
   have hat:At N env (L₂++Lx) θ Y { a with defers:=mkD mark++a.defers } { w₂ with heap:=w₂.heap.setIfInBounds l (.loop { ({ rec with state:=.done,pending:=some c }:Loop) with state:=.exhausted }) }:=by
    refine⟨mark++M,⟨ea.size,ea.at_⟩,by simp[mkD,hm],?_⟩;have e:mkH (mark++M)++Y=mkH mark++(mkH M++Y):=by simp[mkH]
    rw[e,aH];exact s7
   cases c with
   | ret=>exact wpIn_ret ⟨env,_,hat,hj⟩
   | exit id=>exact wpIn_exit ⟨env,_,hat,hj⟩
   | _=>exact hj.elim
 refine wpIn_rangeFunc fun fn _=>?_;cases r with
 | none =>
  have s1:=s0.alloc (o:=.deferred (some []));have s2:=s1.alloc (o:=.loop { state:=.ready,pending:=none,fn,tmps:=a.tmps,params:=ps,assign,body,defers:=w.heap.size });refine main fn (w.heap.size+1) w.heap.size [w.heap.size] _ lm ?_;rw[World.size_alloc] at s2;exact s2
 | some l =>
  obtain⟨rec,Y',hY⟩:=hr l rfl
  have hl0:w.heap[l]? = some (.loop rec):=by
   have s1:Sat θ (own l (.loop rec)::(I 0++Lg++(mkH M++Y'))) w:=s0.perm (by
    have h1:(I 0++Lg++(mkH M++Y)).Perm (I 0++Lg++(mkH M++(own l (.loop rec)::Y'))):=(hY.append_left _).append_left _;refine h1.trans ?_;rw[←aH,←aH (I 0++Lg)];exact fB)
   exact s1.own_heap
  exact main fn w.heap.size rec.defers [] _ (ll hl0) s0.alloc
theorem Ent.openS{A L:LH}:Ent (cL A::L) (A++L):=fun θ R w s=>by
 have h:Sat θ (A++(L++R)) w:=Sat.ofStars (L:=L++R) s;rw[aH];exact h
theorem Ent.j0{A L:LH}:Ent (A++L) (cL A::L):=fun θ R w s=>by
 rw[aH] at s;exact Sat.d7 s
def andP(A B:HP):HP:=fun ι _=>A ι Hp.emp∧B ι Hp.emp
theorem PersM.and{A B:HP}(hA:PersM A)(hB:PersM B):PersM (andP A B) :=
 ⟨fun _ _ h=>h,fun ι ι' _ hs h=>⟨hA.mono ι ι' _ hs h.1,hB.mono ι ι' _ hs h.2⟩⟩
theorem Ent.andE{A B:HP}{L:LH}:Ent (andP A B::L) (A::B::L):=fun θ R w s=>by
 obtain⟨ok,ι,h',a,b1,c,ι₀,h₁,h₂,d1,d2,d3,d4,d5,d6⟩:=s;exact⟨ok,ι,h',a,b1,c,ι₀,Hp.emp,h₂,d1,Hp.d8 _,Hp.d7 _,d4,d5.1,ι₀,Hp.emp,h₂,d1,Hp.d8 _,Hp.d7 _,Hp.sub.refl _,d5.2,d6⟩
theorem Ent.f7{A B:HP}{L:LH}(hA:PersM A)(hB:PersM B):Ent (A::B::L) (andP A B::L):=fun θ R w s=>by
 obtain⟨ok,ι,h',a,b1,c,ι₁,h₁,h₂,d1,d2,d3,d4,d5,ι₂,h₃,h₄,e1,e2,e3,e4,e5,e6⟩:=s;exact⟨ok,ι,h',a,b1,c,ι,Hp.emp,h₄,Hp.sub.refl _,Hp.d8 _,Hp.d7 _,e4.trans d4,⟨hA.mono _ _ _ d1 (hA.pers _ _ d5),hB.mono _ _ _ e1 (hB.pers _ _ e5)⟩,e6⟩
theorem cQ{α:Type}{f:α→HP}{l:List α}(hf:∀x,PersM (f x)):PersM (allP f l) :=
 ⟨fun _ _ h=>h,fun ι ι' _ hs h x hx=>(hf x).mono ι ι' _ hs (h x hx)⟩
end fv
end
end Go.V
namespace Go.Proofs.YtommnllbflbdmaaGreatDoor
open Go.V
attribute [local irreducible] G GO GP GPW GPK Ev Ef EfR Ent CB GB Enters
theorem getElem!_of{α:Type}[Inhabited α]{l:List α}{i:Nat}(h:i<l.length):l[i]! = l[i]:=by
 rw[List.getElem!_eq_getElem?_getD,List.getElem?_eq_getElem h];rfl
def I64(n:Int):Prop:=-9223372036854775808≤n∧n≤9223372036854775807
theorem aI{α:Type}[Inhabited α]{l:List α}{i:Nat}(h:i<l.length):l[i]!∈l:=by rw[getElem!_of h];exact eQ h
theorem fG{α:Type}[Inhabited α]{l:List α}{k:Nat}(h:k<l.length):l.drop k=l[k]!::l.drop (k+1):=by
 rw[eD h,getElem!_of h]
theorem eo{α β:Type}[Inhabited α][Inhabited β](f:α→β){l:List α}{k:Nat}(h:k<l.length):(l.map f)[k]! = f l[k]!:=by
 rw[getElem!_of (by simpa using h),getElem!_of h];simp
abbrev Lot:=Int×Int×Int
abbrev LL:=List Lot
def an(l:Lot):LV:=[ab l.1,ab l.2.1,ab l.2.2]
theorem cx(t:Lot):∀u∈an t,u.oneCell' = true:=by simp[an,Value.oneCell']
instance:EncC an:=⟨cx⟩
structure Stk where
 ad:OA
 cap:Nat
 lots:LL
 deriving Inhabited
def Stk.v(s:Stk):Value:=.slice s.ad s.lots.length s.cap
abbrev stkP(s:Stk):HP:=isl an 3 s.ad s.lots
theorem vp(s:Stk):PersM (stkP s):=bT _ _ _ _
def encN(n:Int):Value:=ab n
abbrev tLot:Nat:=91
theorem ly{L:LH}(ad:OA)(n c:Nat)(xs:LL)[Rds L ad Lot an 3 xs](hn:n=xs.length)(hb:n≤1000000) :
  Tri ah 127 #[.slice ad n c] L (fun v L'=>∃ad' cap',v=.slice ad' xs.length cap'∧L' = osl an 3 tLot ad' cap' xs::L):=by
 refine Tri.body (args:=[.slice ad n c]) 8 JR Tryz.func127 rfl rfl rfl (by simp) ?_;repeat' first|refine aa ?_|intro _|with_reducible refine CB.dec (fun _=>?_) (fun _=>?_)|with_reducible refine GB.dec (fun _=>?_) (fun _=>?_)|with_reducible refine CB.bool (fun _=>?_) (fun _=>?_)|with_reducible refine GB.bool (fun _=>?_) (fun _=>?_)
 ·have h:ad=none:=by assumption
  subst h;refine KX.f9 (.inl rfl) (ni (L:=L) (xs:=xs)) ?_;intro hx;subst hx;refine KX.d7 ai (Ent.d8 an 3 tLot) ⟨_,_,rfl,rfl⟩
 ·refine GO.ent (Ent.e8 (enc:=an) (sz:=3) (xs:=[]) rfl rfl (by simp) (by simp)) ?_;refine GO.ef (Ef.e7 rfl rfl rfl rfl hn (fun e _=>cx e) (by simp;omega) (by simp;omega)) ae ?_;rintro _ _⟨ad',cap',rfl,rfl⟩;repeat first|refine aa ?_|intro
  refine KX.d7 ai (Ent.refl _) ⟨ad',cap',rfl,rfl⟩
def LotOk(l:Lot):Prop:=0≤l.1∧0≤l.2.1∧l.2.1≤1099511627776∧1≤l.2.2∧l.2.2≤1099511627776 - l.2.1
theorem iR{φ ψ:Prop}(k:ψ)(h:Hid ψ→φ:=by intro k;first|((with_reducible apply GO.d7);refine GO.e7 mI Tryz.func267 rfl rfl rfl rfl (by simp) ae (Hid.out k))|((with_reducible apply GPW.d7);refine GPW.e7 mI Tryz.func267 rfl rfl rfl rfl (by simp) ae (Hid.out k))|((with_reducible apply GO.d7);refine GO.d8 rfl mI Tryz.func267 rfl rfl rfl rfl (by simp) ae (Hid.out k))|((with_reducible apply GPW.d7);refine GPW.d8 rfl mI Tryz.func267 rfl rfl rfl rfl (by simp) ae (Hid.out k))|((with_reducible apply KX.f7);first|refine KX.in0 (.inl rfl) (Hid.out k)|refine KX.in0 (.inr rfl) (Hid.out k)|refine KX.in1 (.inl rfl) rfl (Hid.out k)|refine KX.in2 (.inl rfl) rfl rfl (Hid.out k)|refine KX.in3 (.inl rfl) rfl rfl rfl (Hid.out k)|refine KX.inC (.inl rfl) rfl (by rfl) (Hid.out k)|refine KX.e9 (.inl rfl) rfl (by rfl) rfl (Hid.out k))):φ:=h ⟨k⟩
theorem jO{L:LH}(ad:OA)(n c:Nat)(xs:LL)[Rds L ad Lot an 3 xs](hn:n=xs.length)(hb:xs.length≤4096)(hx:∀l∈xs,LotOk l) :
  Tri ah 261 #[.slice ad n c] L (fun v L'=>v=.bool true∧L' = L):=by
 refine Tri.body (args:=[.slice ad n c]) 18 HH Tryz.func261 rfl rfl rfl (by simp) ?_;repeat first|refine aa ?_|intro _|refine iR ?_
 refine G.loop (α:=Nat) (fun i=>i≤n) (fun i=>[(0,.slice ad n c),(8,.slice ad n c),(9,ab n),(10,ab (i:Int))]) (fun _=>L) (fun i=>n - i) 0 (ao _) aj (Ent.refl _) ?_;intro i hi;by_cases hlt:i<n
 case neg =>
  repeat first|refine aa ?_|intro _|refine iR ?_
  exact KX.d7 ai (Ent.refl _) ⟨rfl,rfl⟩
 obtain⟨o1,o2,o3,o4,o5⟩:=hx _ (aI (show i<xs.length by omega));have hii:(i:Int).toNat=i:=ac;rw[←hii] at o1 o2 o3 o4 o5;repeat first|refine aa ?_|intro _|refine iR ?_
 rw[aU o5];repeat first|refine aa ?_|intro _|refine iR ?_
 refine⟨i+1,ac,ac,?_,?_⟩
 ·rw[aP i];exact aj
 ·exact ag
def glk{κ α:Type}[DecidableEq κ](m:List (κ×α))(k:κ):Option α:=m.lookup k
theorem wx{κ α:Type}[DecidableEq κ]{m:List (κ×α)}{k:κ}{a:α}:∀p∈gins m k a,p∈(k,a)::m:=by
 intro p hp;unfold gins at hp;split at hp
 ·obtain⟨q,hq,rfl⟩:=List.mem_map.1 hp;split
  ·exact aw ..
  ·exact av _ hq
 ·rcases List.mem_append.1 hp with h|h
  ·exact av _ h
  ·simp at h;subst h;exact aw ..
theorem EB{κ α:Type}[DecidableEq κ](m:List (κ×α))(k:κ)(a:α):(gins m k a).length≤m.length+1:=by
 unfold gins;split<;>simp
def lsum(xs:LL):Int:=xs.foldl (fun s l=>s+l.2.2) 0
theorem dV(xs:LL){i:Nat}(h:i<xs.length):lsum (xs.take (i+1))=lsum (xs.take i)+xs[i]!.2.2:=by
 unfold lsum;rw[aC h,cJ,getElem!_of h];rfl
theorem gx{xs:LL}(h:∀l∈xs,LotOk l):∀i,i≤xs.length→0≤lsum (xs.take i)∧lsum (xs.take i)≤(i:Int)*1099511627776:=by
 intro i;induction i with
 | zero=>intro _;simp[lsum]
 | succ i ih =>
  intro hi;obtain⟨h1,h2⟩:=ih ac;obtain⟨o1,o2,o3,o4,o5⟩:=h _ (aI (show i<xs.length by omega));rw[dV xs ac];have:((i+1:Nat):Int)*1099511627776=(i:Int)*1099511627776+1099511627776:=ac
  rw[this];omega
theorem xh{L:LH}(ad:OA)(n c:Nat)(xs:LL)[Rds L ad Lot an 3 xs](hn:n=xs.length)(hb:xs.length≤4096)(hx:∀l∈xs,LotOk l) :
  Tri ah 71 #[.slice ad n c] L (fun v L'=>v=ab (lsum xs)∧L' = L):=by
 refine Tri.body (args:=[.slice ad n c]) 18 en71 Tryz.func71 rfl rfl rfl (by simp) ?_;repeat first|refine aa ?_|intro
 refine G.loop (α:=Nat) (fun i=>i≤n) (fun i=>[(0,.slice ad n c),(3,ab (lsum (xs.take i))),(6,.slice ad n c),(7,ab n),(8,ab (i:Int))]) (fun _=>L) (fun i=>n - i) 0 (ao _) aj (Ent.refl _) ?_;intro i hi;by_cases hlt:i<n
 case neg =>
  rw[aD (show xs.length≤i by omega)];repeat first|refine aa ?_|intro
  exact KX.d7 ai (Ent.refl _) ⟨rfl,rfl⟩
 have hb1:=gx hx i ac;obtain⟨o1,o2,o3,o4,o5⟩:=hx _ (aI (show i<xs.length by omega));have hs:=dV xs (show i<xs.length by omega);have hm:(i:Int)*1099511627776≤4096*1099511627776:=bX ac ae;repeat first|refine aa ?_|intro
 rw[aA];repeat first|refine aa ?_|intro
 refine⟨i+1,ac,ac,?_,Ent.drop⟩;rw[hs,aP i];exact aj
theorem Ev.C6{P:Program}{L:LH}{env:Env}{ty:TypeId}{t f off:Nat}{x:Operand}{cs:LV}{v:Value}{fs:Array Field}{fd:Field}(h1:P.underlying t=some (.struct fs))(h2:fs[f]? = some fd)(h3:fd.offset=off)(h4:∀w,(isAgg fd.type).run P w=.ok false w)
  (hx:evE env x=some (.agg cs.toArray)) (hv:cs[off]? = some v):Ev P L env (.field t x f) ty v :=
 Ev.mk (fun θ R _ w ea s _ _ _ _=>by
  simp[execOp,aO ea hx,Instr.field,run_underlying h1,h2,h3,asAgg,part,h4,hv])
def bL(a:Int×Int):LV:=[ab a.1,ab a.2]
theorem pj(t:Int×Int):∀u∈bL t,u.oneCell' = true:=by simp[bL,Value.oneCell']
instance:EncC bL:=⟨pj⟩
