/- Lemmas. -/
import Derived.Test.YtommnllbflbdmaaGreatDoorFah
import Derived.Test.YtommnllbflbdmaaGreatDoorFT
import Derived.Sort.Grow
import Derived.Lib.SlicesCompact
set_option linter.all false
set_option maxHeartbeats 1000000
namespace Go.Proofs.YtommnllbflbdmaaGreatDoor
open Go.V
instance:TyIS ai 46 3:=TyIS.of krStd0 krStd0 krStd0 krStd0 krStd0
instance:TyIS ai 91 3:=TyIS.of krStd0 krStd0 krStd0 krStd0 krStd0
instance:TyIS ai 133 2:=TyIS.of krStd0 krStd0 krStd0 krStd0 krStd0
instance:TyArr ai 116 2 3 1:=⟨krStd0,krStd0⟩
instance:TyArr ai 359 128 5 1:=⟨krStd0,krStd0⟩
instance:TyG ai 101 116 72 (ah none 0 0):=⟨krStd0,krStd0⟩
instance:TyG ai 102 3 3 (ac 0):=⟨krStd0,krStd0⟩
instance:KeyT ai 3 kvI:=keyI
instance:TyG ai 103 3 72 (ah none 0 0):=⟨krStd0,krStd0⟩
instance:TyG ai 115 116 3 (ac 0):=⟨krStd0,krStd0⟩
instance:TyG ai 124 133 72 (ah none 0 0):=⟨krStd0,krStd0⟩
instance:KeyT ai 133 kvP:=keyP
instance:TyG ai 304 9 4 (.bool false):=⟨krStd0,krStd0⟩
instance:KeyT ai 9 kvS:=keyS
end Go.Proofs.YtommnllbflbdmaaGreatDoor
namespace Go.V
section
section
variable {P:Program}{N:Nat}{env:Env}{L:LH}{ty:TypeId}{v:Value}
def Ev.n5{t E:TypeId}{x y:Operand}{a b:Int}[ht:TyArr P t 2 E 1][hz:ZeroT P t [ac 0,ac 0]](hx:evE env x=some (ac a))(hy:evE env y=some (ac b)) :
  Ev P L env (.build t #[(0,x),(1,y)]) ty (.agg #[ac a,ac b]) :=
 Ev.mk (fun θ R ρ w ea s _ _ _ _=>by
  obtain⟨z0,h1,h2⟩:=hz.run w;have c1:(Value.int .i64 a).cells=#[ac a]:=rfl;have c2:(Value.int .i64 b).cells=#[ac b]:=rfl;simp[execOp,aT ea hx,aT ea hy,Instr.build,Sem.run_bind,h1,Result.andThen_ok,run_underlying ht.under,ht.sizeOf_run,h2,Instr.fill,c1,c2])
end
end
section
open Go.Sort
def wg{d:List Int}{a0:Array Value}{m:Nat}(hm:m≤d.length)(hc:d.length≤a0.size):(putCells (Value.int .i64) 0 d.toArray a0).toList.take (m*1)=(d.take m).flatMap (encZ .i64):=by
 rw[nA,Nat.mul_one];apply ig;intro i;by_cases hi:i<m
 ·have h1:i<d.length:=ab;have h2:i<a0.size:=ab;rw[List.getElem?_take,if_pos hi];simp[putCells,h1,h2,hi]
 ·rw[List.getElem?_take,if_neg hi];simp;omega
def Sat.putRow{θ:Th}{g E:Nat}{a1:Array Value}{R:LH}{w:World}{d:Array Int}{n:Nat}{os:Array Obj}(s:Sat θ (own g (.cells a1 E (0,0))::R) w) :
  Sat θ (own g (.cells (putCells (Value.int .i64) 0 d a1) E (0,0))::R) (grow (Sort.putRow (Value.int .i64) (Sort.ahead w n) g 0 d) os):=by
 have hb:=s.own_heap;have a2:g<w.heap.size:=(Array.getElem?_eq_some_iff.1 hb).1;refine s.update ⟨s.1.tape,s.1.os,s.1.output,cO s.1.drawn (eu _ _)⟩ ?_ ?_
 ·show(w.heap.modify g (onCells (putCells (Value.int .i64) 0 d))++os)[g]? = _;rw[Array.getElem?_append_left (by simpa using a2),Array.getElem?_modify,if_pos rfl,hb];rfl
 ·intro k x hk hx;have a0:k<w.heap.size:=(Array.getElem?_eq_some_iff.1 hx).1;show(w.heap.modify g (onCells (putCells (Value.int .i64) 0 d))++os)[k]? = _;rw[Array.getElem?_append_left (by simpa using a0),Array.getElem?_modify,if_neg (fun e=>hk e.symm),hx]
def FV{g E:Nat}{a0:Array Value}{xs:List Int}{w:World}(hb:w.heap[g]? = some (.cells a0 E (0,0)))(ht:a0.toList.take (xs.length*1)=xs.flatMap (encZ .i64)):Holds (Value.int .i64) w g 0 xs.toArray:=by
 intro j hj;have a1 : j<xs.length:=by simpa using hj
 refine⟨?_,by simp[World.frozen?,hb]⟩;rw[dl,fh hb];have h:(a0.toList.take (xs.length*1))[j]? = (xs.flatMap (encZ .i64))[j]?:=by rw[ht]
 rw[nA,List.getElem?_take,if_pos ab] at h;simp[a1] at h;simp[a1,h]
def Tri.f7{P:Program}{f:FuncId}{E cap:Nat}{ad:OA}{xs ys:List Int}{L:LH}(he:Enters P f)(a5:ys.length=xs.length)(a7:xs.length<4611686018427387904)
  (h0:xs.length=0→∀w,Calls P f #[.slice ad 0 cap] w fun e w'=>e=.returned (.tuple #[])∧w' = w)
  (h1:∀a0 w,Holds (Value.int .i64) w a0 0 xs.toArray→a0<w.heap.size→Calls P f #[.slice (some ⟨a0,0,none⟩) xs.length cap] w fun e w'=>e=.returned (.tuple #[])∧∃n os,w' = grow (Sort.putRow (Value.int .i64) (Sort.ahead w n) a0 0 ys.toArray) os) :
  Tri P f #[.slice ad xs.length cap] (osl (encZ .i64) 1 E ad cap xs::L) (fun v L'=>v=.tuple #[]∧L' = osl (encZ .i64) 1 E ad cap ys::L):=by
 refine⟨he,fun θ R w s=>?_⟩;by_cases hx:xs.length=0
 ·have e1:xs=[]:=aX hx;have e2:ys=[]:=aX ab;subst e1 e2;refine(h0 rfl w).mono ?_;rintro e w' ⟨rfl,rfl⟩;exact⟨_,_,rfl,⟨rfl,rfl⟩,s⟩
 obtain⟨a1,a2,a3,a4⟩:=Sat.osl_parts (L:=L++R) s;rcases a4 with⟨rfl,rfl⟩|⟨g,a6,rfl,b1,b2,b3⟩
 ·omega
 have hb:=b3.own_heap;refine(h1 g w (FV hb b2) (Array.getElem?_eq_some_iff.1 hb).1).mono ?_;rintro e w' ⟨rfl,n,os,rfl⟩;refine⟨_,_,rfl,⟨rfl,rfl⟩,?_⟩;refine Sat.osl_mk (L:=L++R) (Sat.putRow b3) (fun _ _=>rfl) ab a3 ?_ ?_
 ·simp[putCells,b1]
 ·rw[wg (aB _) (by rw[b1];omega),bC]
end
section
section fv
variable {P:Program}{N:Nat}{env:Env}{L:LH}{K:Post}{ty:TypeId}
def EN(P:Program)(gf:FuncId)(cap:LV)(a0:List (LV))(Lg Lx:LH):Prop :=
 ∀(l:Nat) (J Jx:Nat→HP),(∀k (hk:k<a0.length),YTri P l a0[k] [J k] (fun v L'=>(v=.bool true∧L' = [J (k+1)])∨(v=.bool false∧L' = [Jx k]))) →
  Tri P gf (.func (.yield l) #[] #[]::cap).toArray (J 0::Lg) (fun _ L'=>L' = J a0.length::Lx∨∃k,L' = Jx k::Lx)
def G.f7{g:Operand}{ps:Array Tmp}{assign body:Code}{gf:FuncId}{cap:LV}{a2:List (LV)}{Lg Lx:LH}(it:EN P gf cap a2 Lg Lx)(hg:evE env g=some (.func (.func gf) #[] cap.toArray))
  (b3:Enters P gf) (b6:∀p∈ps,p<N) (a8:∀vs∈a2,vs.length=ps.size) (I:Nat→LH) (hl:Ent L (I 0++Lg))
  (a4:∀k (hk:k<a2.length),G P N assign (penv env (ps.toList.zip a2[k])) (I k) (Post.seq (fun a7 L'=>G P N body a7 L' (ui K env Lx (I (k+1)))) (fun _ _ _=>False)))
  (a5:K .normal env (I a2.length++Lx)):G P N (.rangeFunc g ps assign body) env L K:=by
 intro r θ Y a w hr i;obtain⟨M,ea,hm,s⟩:=i;have s0:Sat θ (I 0++Lg++(mkH M++Y)) w:=hl θ _ w s;-- what is the same in both cases
 have a6:∀(fn:FuncId) (l D:Nat) (a0:List Nat) (w₁:World),(Instr.enterLoop fn a.tmps ps assign body r).run P w=.ok (l,mkD a0) w₁ →
   Sat θ (own l (.loop { state:=.ready,pending:=none,fn,tmps:=a.tmps,params:=ps,assign,body,defers:=D })::(mkH a0++(I 0++Lg++(mkH M++Y)))) w₁ →
   ∃(l:Nat) (a0:List Deferred) (w₁:World) (d:Deferred) (w₁' : World) (f:FuncId) (args:Array Value) (w₂:World),
   (Instr.enterLoop fn a.tmps ps assign body (FW r).round).run P w=.ok (l,a0) w₁ ∧
   (resolve a.eval (rangeCall g l) 0).run P w₁=.ok d w₁' ∧
   (∀f',Target.leads P w₁' d.target d.args=some f'→(FW r).fn f') ∧
   (invoke d.target d.args).run P w₁' = .ok (.enter f args) w₂ ∧
   ((FW r).depth.isSome=true→1≤0) ∧
   CallsIn (FW r) (0 - 1) P f args w₂ (rangePost (FW r) 0 P l (QK θ Y N K) { a with defers:=a0++a.defers }):=by
  intro fn l D a0 w₁ he s1;obtain⟨a1,a3⟩:∃a1:Loop,a1={ state:=.ready,pending:=none,fn,tmps:=a.tmps,params:=ps,assign,body,defers:=D }:=⟨_,rfl⟩;rw[←a3] at s1;have b1:a1.state=.ready:=by rw[a3]
  have b0:a1.pending=none:=by rw[a3]
  have hy:∀k (hk:k<a2.length),YTri P l a2[k] [cS (own l (.loop a1)::I k)] (fun v L'=>(v=.bool true∧L' = [cS (own l (.loop a1)::I (k+1))])∨(v=.bool false∧L' = [hex fun x:Code×LH=>cS (dA (jt K env Lx x.1 x.2)::own l (.loop { a1 with state:=.done,pending:=some x.1 })::x.2)])):=by
   intro k hk;refine tB b1 b0 (by rw[a3];exact a8 _ (ew _)) (by rw[a3];exact b6) (env:=env) ?_ ?_
   ·rw[a3];exact⟨ea.size,ea.at_⟩
   ·rw[a3];exact a4 k hk
  have ht:=it l (fun k=>cS (own l (.loop a1)::I k)) (fun _=>hex fun x:Code×LH=>cS (dA (jt K env Lx x.1 x.2)::own l (.loop { a1 with state:=.done,pending:=some x.1 })::x.2)) hy;have b4:a.eval g=.func (.func gf) #[] cap.toArray:=aT ea.agr hg;refine⟨l,mkD a0,w₁,{ target:=.fn (.func gf) cap.toArray,args:=#[.func (.yield l) #[] #[]] },w₁,gf,(.func (.yield l) #[] #[]::cap).toArray,w₁,he,?_,fun _ _=>trivial,?_,(fun h=>by cases h),pw ?_⟩
  ·simp only[resolve,Deferred.ofValue,b4];simp[Act.eval]
  ·have:=b3 (.func (.yield l) #[] #[]::cap).toArray w₁
   simpa [invoke] using this
  have s2:Sat θ (cS (own l (.loop a1)::I 0)::Lg++(mkH a0++(mkH M++Y))) w₁:=by
   refine Sat.d7 (A:=own l (.loop a1)::I 0) (s1.perm ?_);simp only[ao];refine List.Perm.cons _ ?_;rw[aF];refine perm_front.trans ?_;refine List.Perm.append_left _ ?_;exact perm_front
  refine(ht.calls θ _ w₁ s2).mono ?_;rintro e w₂ ⟨v,L',rfl,b2,s3⟩;rcases b2 with rfl|⟨k,rfl⟩
  ·have s4:Sat θ (own l (.loop a1)::(I a2.length++(Lx++(mkH a0++(mkH M++Y))))) w₂:=Sat.ofStars (A:=own l (.loop a1)::I a2.length) s3;have hh:=s4.own_heap;refine⟨none,_,(by rw[←b0];exact lW hh (by rw[b1];simp)),?_⟩;have s5:=(Sat.d8 (rec':={ a1 with state:=.exhausted }) s4).tail;refine⟨env,I a2.length++Lx,⟨a0++M,⟨ea.size,ea.at_⟩,by simp[mkD,hm],?_⟩,a5⟩;have e:mkH (a0++M)++Y=mkH a0++(mkH M++Y):=by simp[mkH]
   rw[e,aF];exact s5
  ·obtain⟨⟨c,L₂⟩,s4⟩:=Sat.ofHex (L:=Lx++(mkH a0++(mkH M++Y))) s3;have s5:Sat θ (dA (jt K env Lx c L₂)::(own l (.loop { a1 with state:=.done,pending:=some c })::(L₂++(Lx++(mkH a0++(mkH M++Y)))))) w₂:=Sat.ofStars (A:=dA (jt K env Lx c L₂)::own l (.loop { a1 with state:=.done,pending:=some c })::L₂) s4;have hj:=s5.ofPure;have s6:=s5.tail;have hh:=s6.own_heap;have s7:=(Sat.d8 (rec':={ ({ a1 with state:=.done,pending:=some c }:Loop) with state:=.exhausted }) s6).tail;refine⟨some c,_,lW hh ce,?_⟩
   have a9:At N env (L₂++Lx) θ Y { a with defers:=mkD a0++a.defers } { w₂ with heap:=w₂.heap.setIfInBounds l (.loop { ({ a1 with state:=.done,pending:=some c }:Loop) with state:=.exhausted }) }:=by
    refine⟨a0++M,⟨ea.size,ea.at_⟩,by simp[mkD,hm],?_⟩;have e:mkH (a0++M)++Y=mkH a0++(mkH M++Y):=by simp[mkH]
    rw[e,aF];exact s7
   cases c with
   | ret=>exact wpIn_ret ⟨env,_,a9,hj⟩
   | exit id=>exact wpIn_exit ⟨env,_,a9,hj⟩
   | _=>exact hj.elim
 refine wpIn_rangeFunc fun fn _=>?_;cases r with
 | none =>
  have s1:=s0.alloc (o:=.deferred (some []));have s2:=s1.alloc (o:=.loop { state:=.ready,pending:=none,fn,tmps:=a.tmps,params:=ps,assign,body,defers:=w.heap.size });refine a6 fn (w.heap.size+1) w.heap.size [w.heap.size] _ mh ?_;rw[World.size_alloc] at s2;exact s2
 | some l =>
  obtain⟨a1,Y',hY⟩:=hr l rfl
  have b5:w.heap[l]? = some (.loop a1):=by
   have s1:Sat θ (own l (.loop a1)::(I 0++Lg++(mkH M++Y'))) w:=s0.perm (by
    have h1:(I 0++Lg++(mkH M++Y)).Perm (I 0++Lg++(mkH M++(own l (.loop a1)::Y'))):=(hY.append_left _).append_left _;refine h1.trans ?_;rw[←aF,←aF (I 0++Lg)];exact fH)
   exact s1.own_heap
  exact a6 fn w.heap.size a1.defers [] _ (mg b5) s0.alloc
def Ent.openS{A L:LH}:Ent (cS A::L) (A++L):=fun θ R w s=>by
 have h:Sat θ (A++(L++R)) w:=Sat.ofStars (L:=L++R) s;rw[aF];exact h
def Ent.l6{A L:LH}:Ent (A++L) (cS A::L):=fun θ R w s=>by
 rw[aF] at s;exact Sat.d7 s
def andP(A B:HP):HP:=fun ι _=>A ι Hp.emp∧B ι Hp.emp
def PersM.and{A B:HP}(hA:PersM A)(hB:PersM B):PersM (andP A B) :=
 ⟨fun _ _ h=>h,fun ι ι' _ hs h=>⟨hA.mono ι ι' _ hs h.1,hB.mono ι ι' _ hs h.2⟩⟩
def Ent.andE{A B:HP}{L:LH}:Ent (andP A B::L) (A::B::L):=fun θ R w s=>by
 obtain⟨ok,ι,h',a,b1,c,ι₀,h₁,h₂,d1,d2,d3,d4,d5,d6⟩:=s;exact⟨ok,ι,h',a,b1,c,ι₀,Hp.emp,h₂,d1,Hp.d8 _,Hp.d7 _,d4,d5.1,ι₀,Hp.emp,h₂,d1,Hp.d8 _,Hp.d7 _,Hp.sub.refl _,d5.2,d6⟩
def Ent.e9{A B:HP}{L:LH}(hA:PersM A)(hB:PersM B):Ent (A::B::L) (andP A B::L):=fun θ R w s=>by
 obtain⟨ok,ι,h',a,b1,c,ι₁,h₁,h₂,d1,d2,d3,d4,d5,ι₂,h₃,h₄,e1,e2,e3,e4,e5,e6⟩:=s;exact⟨ok,ι,h',a,b1,c,ι,Hp.emp,h₄,Hp.sub.refl _,Hp.d8 _,Hp.d7 _,e4.trans d4,⟨hA.mono _ _ _ d1 (hA.pers _ _ d5),hB.mono _ _ _ e1 (hB.pers _ _ e5)⟩,e6⟩
def cQ{α:Type}{f:α→HP}{l:List α}(hf:∀x,PersM (f x)):PersM (allP f l) :=
 ⟨fun _ _ h=>h,fun ι ι' _ hs h x hx=>(hf x).mono ι ι' _ hs (h x hx)⟩
end fv
end
end Go.V
namespace Go.Proofs.YtommnllbflbdmaaGreatDoor
section
open Go.V
attribute [local irreducible] G GO GP GPW GPK Ev Ef EfR Ent CB GB Enters
def getElem!_of{α:Type}[Inhabited α]{l:List α}{i:Nat}(h:i<l.length):l[i]! = l[i]:=by
 rw[List.getElem!_eq_getElem?_getD,List.getElem?_eq_getElem h];rfl
def I64(n:Int):Prop:=-9223372036854775808≤n∧n≤9223372036854775807
def aJ{α:Type}[Inhabited α]{l:List α}{i:Nat}(h:i<l.length):l[i]!∈l:=by rw[getElem!_of h];exact ew h
def ej{α:Type}[Inhabited α]{l:List α}{k:Nat}(h:k<l.length):l.drop k=l[k]!::l.drop (k+1):=by
 rw[ey h,getElem!_of h]
def dI{α β:Type}[Inhabited α][Inhabited β](f:α→β){l:List α}{k:Nat}(h:k<l.length):(l.map f)[k]! = f l[k]!:=by
 rw[getElem!_of (by simpa using h),getElem!_of h];simp
abbrev Lot:=Int×Int×Int
abbrev LL:=List Lot
def aj(l:Lot):LV:=[ac l.1,ac l.2.1,ac l.2.2]
def bX(t:Lot):∀u∈aj t,u.oneCell' = true:=by simp[aj,Value.oneCell']
instance:EncC aj:=⟨bX⟩
structure Stk where
 ad:OA
 cap:Nat
 lots:LL
 deriving Inhabited
def Stk.v(s:Stk):Value:=ah s.ad s.lots.length s.cap
abbrev stkP(s:Stk):HP:=isl aj 3 s.ad s.lots
def mQ(s:Stk):PersM (stkP s):=bM _ _ _ _
def encN(n:Int):Value:=ac n
abbrev tLot:Nat:=91
def hM{L:LH}(ad:OA)(n c:Nat)(xs:LL)[Rds L ad Lot aj 3 xs](hn:n=xs.length)(hb:n≤1000000) :
  Tri ai 127 #[ah ad n c] L (fun v L'=>∃a1 a0,v=ah a1 xs.length a0∧L' = osl aj 3 tLot a1 a0 xs::L):=by
 refine Tri.bd ?_;repeat' first|refine aa ?_|intro _|with_reducible refine CB.dec (fun _=>?_) (fun _=>?_)|with_reducible refine GB.dec (fun _=>?_) (fun _=>?_)|with_reducible refine CB.bool (fun _=>?_) (fun _=>?_)|with_reducible refine GB.bool (fun _=>?_) (fun _=>?_)
 ·have h:ad=none:=by assumption
  subst h;refine KX.f7 (.inl rfl) (ol (L:=L) (xs:=xs)) ?_;intro hx;subst hx;refine KX.d7 an (Ent.d8 aj 3 tLot) ⟨_,_,rfl,rfl⟩
 ·refine GO.ent (Ent.f7 (enc:=aj) (sz:=3) (xs:=[]) rfl rfl ce ce) ?_;refine GO.ef (Ef.d9 rfl rfl rfl rfl hn (fun e _=>bX e) eh eh) ae ?_;rintro _ _⟨a1,a0,rfl,rfl⟩;refine JM ?_;intros;refine KX.d7 an (Ent.refl _) ⟨a1,a0,rfl,rfl⟩
def LotOk(l:Lot):Prop:=0≤l.1∧0≤l.2.1∧l.2.1≤1099511627776∧1≤l.2.2∧l.2.2≤1099511627776 - l.2.1
def jV{φ ψ:Prop}(k:ψ)(h:Hid ψ→φ:=by intro k;first|refine GO.ci (f:=267) (Hid.out k)|refine GPW.ci (f:=267) (Hid.out k)|refine GO.cf (f:=267) rfl (Hid.out k)|refine GPW.cf (f:=267) rfl (Hid.out k)|refine KX.inA (Hid.out k)):φ:=h ⟨k⟩
def aG1{φ ψ:Prop}(k:ψ)(h:Hid ψ→φ:=by intro k;(repeat (first|refine aa ?_|intro zzz|refine jV ?_));(repeat revert zzz);exact Hid.out k):φ:=h ⟨k⟩
def io{L:LH}(ad:OA)(n c:Nat)(xs:LL)[Rds L ad Lot aj 3 xs](hn:n=xs.length)(hb:xs.length≤4096)(hx:∀l∈xs,LotOk l) :
  Tri ai 261 #[ah ad n c] L (rtQ (.bool true) L):=by
 refine Tri.bd ?_;refine aG1 ?_;intros;refine G.loop (α:=Nat) (fun i=>i≤n) (fun i=>[(0,ah ad n c),(8,ah ad n c),(9,ac n),(10,ac (i:Int))]) (fun _=>L) (fun i=>n - i) 0 (ax _) av (Ent.refl _) ?_;intro i hi;by_cases a1:i<n
 case neg =>
  refine aG1 ?_;intros;exact KX.en ⟨rfl,rfl⟩
 obtain⟨o1,o2,o3,o4,o5⟩:=hx _ (aJ (ab:i<xs.length));have a0:(i:Int).toNat=i:=ab;rw[←a0] at o1 o2 o3 o4 o5;refine aG1 ?_;intros;rw[aU o5];refine aG1 ?_;intros;refine⟨i+1,ab,ab,?_,?_⟩
 ·rw[aY i];exact av
 ·exact ag
def glk{κ α:Type}[DecidableEq κ](m:List (κ×α))(k:κ):Option α:=m.lookup k
def pf{κ α:Type}[DecidableEq κ]{m:List (κ×α)}{k:κ}{a:α}:∀p∈gins m k a,p∈(k,a)::m:=by
 intro p hp;unfold gins at hp;split at hp
 ·obtain⟨q,hq,rfl⟩:=List.mem_map.1 hp;split
  ·exact au ..
  ·exact aw _ hq
 ·rcases List.mem_append.1 hp with h|h
  ·exact aw _ h
  ·simp at h;subst h;exact au ..
def Hx{κ α:Type}[DecidableEq κ](m:List (κ×α))(k:κ)(a:α):(gins m k a).length≤m.length+1:=by
 unfold gins;split<;>simp
def lsum(xs:LL):Int:=xs.foldl (fun s l=>s+l.2.2) 0
def eK(xs:LL){i:Nat}(h:i<xs.length):lsum (xs.take (i+1))=lsum (xs.take i)+xs[i]!.2.2:=by
 unfold lsum;rw[aG h,cv,getElem!_of h];rfl
def gZ{xs:LL}(h:∀l∈xs,LotOk l):∀i,i≤xs.length→0≤lsum (xs.take i)∧lsum (xs.take i)≤(i:Int)*1099511627776:=by
 intro i;induction i with
 | zero=>intro _;simp[lsum]
 | succ i ih =>
  intro hi;obtain⟨h1,h2⟩:=ih ab;obtain⟨o1,o2,o3,o4,o5⟩:=h _ (aJ (ab:i<xs.length));rw[eK xs ab];have:((i+1:Nat):Int)*1099511627776=(i:Int)*1099511627776+1099511627776:=ab
  rw[this];omega
def rt{L:LH}(ad:OA)(n c:Nat)(xs:LL)[Rds L ad Lot aj 3 xs](hn:n=xs.length)(hb:xs.length≤4096)(hx:∀l∈xs,LotOk l) :
  Tri ai 71 #[ah ad n c] L (rtQ (ac (lsum xs)) L):=by
 refine Tri.bd ?_;refine JM ?_;intros;refine G.loop (α:=Nat) (fun i=>i≤n) (fun i=>[(0,ah ad n c),(3,ac (lsum (xs.take i))),(6,ah ad n c),(7,ac n),(8,ac (i:Int))]) (fun _=>L) (fun i=>n - i) 0 (ax _) av (Ent.refl _) ?_;intro i hi;by_cases a1:i<n
 case neg =>
  rw[aD (ab:xs.length≤i)];refine JM ?_;intros;exact KX.en ⟨rfl,rfl⟩
 have a0:=gZ hx i ab;obtain⟨o1,o2,o3,o4,o5⟩:=hx _ (aJ (ab:i<xs.length));have hs:=eK xs (ab:i<xs.length);have hm:(i:Int)*1099511627776≤4096*1099511627776:=cd ab ae;refine JM ?_;intros;rw[aC];refine JM ?_;intros;refine⟨i+1,ab,ab,?_,Ent.drop⟩;rw[hs,aY i];exact av
def Ev.A3{P:Program}{L:LH}{env:Env}{ty:TypeId}{t f off:Nat}{x:Operand}{cs:LV}{v:Value}{fs:Array Field}{fd:Field}(h1:P.underlying t=some (.struct fs))(h2:fs[f]? = some fd)(h3:fd.offset=off)(h4:∀w,(isAgg fd.type).run P w=.ok false w)
  (hx:evE env x=some (aO cs)) (hv:cs[off]? = some v):Ev P L env (.field t x f) ty v :=
 Ev.mk (fun θ R _ w ea s _ _ _ _=>by
  simp[execOp,aT ea hx,Instr.field,run_underlying h1,h2,h3,asAgg,part,h4,hv])
def cA(a:Int×Int):LV:=[ac a.1,ac a.2]
def qG(t:Int×Int):∀u∈cA t,u.oneCell' = true:=by simp[cA,Value.oneCell']
instance:EncC cA:=⟨qG⟩
def LotW(l:Lot):Prop:=0≤l.1∧0≤l.2.1∧0≤l.2.2∧l.2.1+l.2.2≤1099511627776
def LotOk.w{l:Lot}(h:LotOk l):LotW l:=by unfold LotOk at h;unfold LotW;omega
def ky(x b:Lot):Prop:=[x.1,x.2.1,0]=[b.1,b.2.1+b.2.2,0]
instance (x b:Lot):Decidable (ky x b):=by unfold ky;infer_instance
def lcont_iff{x b:Lot}:ky x b↔x.1=b.1∧x.2.1=b.2.1+b.2.2:=by simp[ky]
def aZ(l:LL)(x:Lot):LL :=
 if x.2.2=0 then l else if l.length≠0∧ky x l[l.length - 1]! then l.set (l.length - 1) (l[l.length - 1]!.1,l[l.length - 1]!.2.1,l[l.length - 1]!.2.2+x.2.2) else l++[x]
def kU(l:LL)(x:Lot):(aZ l x).length≤l.length+1:=by
 unfold aZ;split
 ·omega
 ·split<;>simp
def rh{l:LL}{x:Lot}(h:∀y∈l,LotW y)(hx:LotW x):∀y∈aZ l x,LotW y:=by
 unfold aZ;split
 ·exact h
 ·split
  ·rename_i hc;obtain⟨a1,a0⟩:=hc;rw[lcont_iff] at a0;intro y hy;rcases dz hy with hy|rfl
   ·exact h y hy
   ·have:=h _ (aJ (ab:l.length - 1<l.length))
    unfold LotW at this hx ⊢;dsimp only;omega
  ·intro y hy;rcases List.mem_append.1 hy with hy|hy
   ·exact h y hy
   ·rw[List.mem_singleton] at hy;subst hy;exact hx
def kz{xs:LL}:∀{l:LL},(∀y∈l,LotW y)→(∀y∈xs,LotW y)→∀y∈xs.foldl aZ l,LotW y:=by
 induction xs with
 | nil=>intro l h _;exact h
 | cons x xs ih =>
  intro l h hx;exact ih (rh h (hx x (au ..))) (fun y hy=>hx y (aw _ hy))
def iQ(xs:LL):∀l:LL,(xs.foldl aZ l).length≤l.length+xs.length:=by
 induction xs with
 | nil=>intro l;simp
 | cons x xs ih =>
  intro l;have h1:=ih (aZ l x);have h2:=kU l x;simp only[fR,bD];omega
def Ec{L:LH}(x b:Lot)(hb:LotW b):Tri ai 289 #[aO (aj x),aO (aj b)] L (rtQ (.bool (dB (ky x b))) L):=by
 unfold LotW at hb;refine Tri.bd ?_;refine JM ?_;intros;exact KX.en ⟨rfl,rfl⟩
abbrev Dl:=aH1 [.ev 8,.ef 9,.ev 10]
abbrev Dk:=aH2 [.ev 10,.ef 11]
def JN{φ ψ:Prop}(k:ψ)(h:Hid ψ→φ:=by intro k;(repeat (first|refine aa ?_|intro zzz|refine G.dr 39 4 Dl ?_|refine G.dr 39 5 Dk ?_));(repeat revert zzz);exact Hid.out k):φ:=h ⟨k⟩
def qv{L:LH}(ad:OA)(cap:Nat)(xs:LL)(x:Lot)(hl:xs.length≤100000000)(a5:∀y∈xs,LotW y)(hx:LotW x) :
  Tri ai 268 #[ah ad xs.length cap,aO (aj x)] (osl aj 3 tLot ad cap xs::L) (fun v L'=>∃a4 a1,v=ah a4 (aZ xs x).length a1∧L' = osl aj 3 tLot a4 a1 (aZ xs x)::L):=by
 refine Tri.bd ?_;by_cases h0:x.2.2=0
 ·have e:aZ xs x=xs:=by unfold aZ;rw[if_pos h0]
  rw[e];refine JN ?_;intros;exact KX.en ⟨ad,cap,rfl,rfl⟩
 by_cases h1:xs.length=0
 ·have e:aZ xs x=xs++[x]:=by unfold aZ;rw[if_neg h0,if_neg (fun h=>h.1 h1)]
  rw[e];refine JN ?_;intros;refine GO.ef (Ef.d7 (enc:=aj) (e:=x) rfl rfl rfl rfl rfl aK (bX _) ab ab) ae ?_;rintro _ _⟨ad2,a0,rfl,rfl⟩;refine JN ?_;intros;exact KX.en ⟨ad2,a0,rfl,rfl⟩
 have a2:((xs.length:Int) - 1).toNat=xs.length - 1:=ab;have a3:=a5 _ (aJ (ab:xs.length - 1<xs.length));rw[←a2] at a3;refine JN ?_;intros;refine GPW.cr (Ec x xs[((xs.length:Int) - 1).toNat]! a3) ?_;by_cases hc:ky x xs[((xs.length:Int) - 1).toNat]!
 ·have a6:=lcont_iff.1 hc;rw[aU hc];unfold LotW at a3 hx;refine JN ?_;intros;refine GPW.efu (Ef.e9 (e:=((xs[((xs.length:Int) - 1).toNat]!.1,xs[((xs.length:Int) - 1).toNat]!.2.1,xs[((xs.length:Int) - 1).toNat]!.2.2+x.2.2):Lot)) rfl rfl aK rfl ab ae) ?_;rintro _ _ rfl
  have e:aZ xs x=xs.set ((xs.length:Int) - 1).toNat (xs[((xs.length:Int) - 1).toNat]!.1,xs[((xs.length:Int) - 1).toNat]!.2.1,xs[((xs.length:Int) - 1).toNat]!.2.2+x.2.2):=by
   unfold aZ;rw[a2] at hc ⊢;rw[if_neg h0,if_pos ⟨h1,hc⟩]
  rw[e];refine JN ?_;intros;exact KX.d7 an ag ⟨ad,cap,by rw[bh];rfl,rfl⟩
 ·rw[aH hc]
  have e:aZ xs x=xs++[x]:=by
   unfold aZ;rw[a2] at hc;rw[if_neg h0,if_neg (fun h=>hc h.2)]
  rw[e];refine JN ?_;intros;refine GO.ef (Ef.d7 (enc:=aj) (e:=x) rfl rfl rfl rfl rfl aK (bX _) ab ab) ae ?_;rintro _ _⟨ad2,a0,rfl,rfl⟩;refine JN ?_;intros;exact KX.en ⟨ad2,a0,rfl,rfl⟩
def pc1(x:Lot)(c:Int):Lot:=(x.1,x.2.1,c)
def pc2(x:Lot)(c:Int):Lot:=(x.1,x.2.1+c,x.2.2 - c)
def pcF(l:LL)(cs:Nat→Int)(k:Nat):Lot:=pc1 l[k]! (cs k)
def pcR(l:LL)(cs:Nat→Int)(k:Nat):Lot:=pc2 l[k]! (cs k)
def pcV(l:LL)(cs:Nat→Int)(k:Nat):LV:=if k % 2=0 then[aO (aj (pcF l cs (k / 2))),.bool true] else[aO (aj (pcR l cs (k / 2))),.bool false]
def pcVs(l:LL)(cs:Nat→Int):List (LV):=(List.range (2*l.length)).map (pcV l cs)
def oR(l:LL)(cs:Nat→Int):(pcVs l cs).length=2*l.length:=by simp[pcVs]
def xV{l:LL}{cs:Nat→Int}{k:Nat}(h:k<(pcVs l cs).length):(pcVs l cs)[k]=pcV l cs k:=by simp[pcVs]
def ul(g:FuncId)(cap:LV)(n:Nat)(cs:Nat→Int)(C:Nat→HP):Prop:=∀k,k<n→∀L:LH,Tri ai g (([]++[Value.int .i64 (k:Int)]++cap:LV)).toArray (C k::L) (rtQ (ac (cs k)) (C (k+1)::L))
abbrev fJ:Nat:=72
abbrev tCnt:Nat:=68
def Bm(bx bf g:Nat)(cap:LV)(ad:OA)(c:Nat)(l:LL)(cs:Nat→Int)(C:Nat→HP)(hm:l.length≤1000000)(hw:∀x∈l,LotW x)(hc:∀k,k<l.length→0≤cs k∧cs k≤l[k]!.2.2)(hC:ul g cap l.length cs C) :
  EN ai 336 [ay bx,ay bf] (pcVs l cs) [obj bx fJ [ah ad l.length c],obj bf tCnt [.func (.func g) #[] cap.toArray],C 0,isl aj 3 ad l] []:=by
 intro i J Jx hy;rw[oR]
 have a1 : ∀k (hk:k<2*l.length),YTri ai i (pcV l cs k) [J k] (fun v L'=>(v=.bool true∧L' = [J (k+1)])∨(v=.bool false∧L' = [Jx k])):=by
  intro k hk;have h:=hy k (by rw[oR];exact hk);rw[xV] at h;exact h
 clear hy;refine Tri.bd (args:=[.func (.yield i) #[] #[],ay bx,ay bf]) ?_;refine JM ?_;intros;refine G.loop (α:=Nat) (fun k=>k≤l.length) (fun k=>[(0,.func (.yield i) #[] #[]),(1,ay bx),(2,ay bf),(7,ah ad l.length c),(8,ac l.length),(9,ac (k:Int))]) (fun k=>[J (2*k),obj bx fJ [ah ad l.length c],obj bf tCnt [.func (.func g) #[] cap.toArray],C k,isl aj 3 ad l]) (fun k=>l.length - k) 0 (ax _) av (Ent.refl _) ?_;intro k hk;by_cases a0:k<l.length
 case neg =>
  have a5:k=l.length:=ab;refine JM ?_;intros;refine KX.e7 an (Ent.d7 (Ent.nil _)) (.inl ?_);rw[a5]
 have a4:(k:Int).toNat=k:=ab;have a6:=hw _ (aJ a0);have a7:=hc k a0;have a2:=a1 (2*k) ab;have a3:=a1 (2*k+1) ab;rw[show pcV l cs (2*k)=[aO (aj (pcF l cs k)),.bool true] by unfold pcV;rw[if_pos ab,show 2*k / 2=k by omega]] at a2;rw[show pcV l cs (2*k+1)=[aO (aj (pcR l cs k)),.bool false] by unfold pcV;rw[if_neg ab,show(2*k+1) / 2=k by omega]] at a3;unfold LotW at a6;refine JM ?_;intros;rw[a4];refine GO.ent (Ent.at (A:=C k) (Ent.refl _)) ?_;refine GO.ef (Ef.d8 rfl rfl (hC k a0 _)) ae ?_;rintro _ _⟨rfl,rfl⟩;refine JM ?_;intros;refine GO.ent (Ent.at (A:=J (2*k)) (Ent.refl _)) ?_;((with_reducible apply GO.d7);refine GO.efR (EfR.yield (a2) rfl rfl cN) ae ?_);rintro _ _⟨_,(⟨rfl,rfl⟩|⟨rfl,rfl⟩),hL⟩
 ·simp only[ao,al] at hL;subst hL;refine JM ?_;intros;((with_reducible apply GO.d7);refine GO.efR (EfR.yield (a3) rfl rfl cN) ae ?_);rintro _ _⟨_,(⟨rfl,rfl⟩|⟨rfl,rfl⟩),hL⟩
  ·simp only[ao,al] at hL;subst hL;refine JM ?_;intros;refine⟨k+1,ab,ab,?_,?_⟩
   ·rw[show(((k+1:Nat)):Int)=(k:Int)+1 by omega];exact av
   ·rw[show 2*(k+1)=2*k+1+1 by omega];exact ag
  ·simp only[ao,al] at hL;subst hL;refine JM ?_;intros;exact KX.d7 an (Ent.d7 (Ent.nil _)) (.inr ⟨2*k+1,rfl⟩)
 ·simp only[ao,al] at hL;subst hL;refine JM ?_;intros;exact KX.d7 an (Ent.d7 (Ent.nil _)) (.inr ⟨2*k,rfl⟩)
def stkA(b:Nat)(xs:LL)(x:OA×Nat):LH:=[obj b fJ [ah x.1 xs.length x.2],osl aj 3 tLot x.1 x.2 xs]
def stkO(b:Nat)(xs:LL):HP:=hex fun x=>cS (stkA b xs x)
def divF(l:LL)(cs:Nat→Int)(m:Nat):LL:=((List.range m).map (pcF l cs)).foldl aZ []
def divR(l:LL)(cs:Nat→Int)(m:Nat):LL:=((List.range m).map (pcR l cs)).foldl aZ []
def qI(l:LL)(cs:Nat→Int)(m:Nat):divF l cs (m+1)=aZ (divF l cs m) (pcF l cs m):=by simp[divF,fq]
def nD(l:LL)(cs:Nat→Int)(m:Nat):divR l cs (m+1)=aZ (divR l cs m) (pcR l cs m):=by simp[divR,fq]
def kn(l:LL)(cs:Nat→Int)(m:Nat):(divF l cs m).length≤m∧(divR l cs m).length≤m:=by
 have h1:=iQ ((List.range m).map (pcF l cs)) [];have h2:=iQ ((List.range m).map (pcR l cs)) [];simp at h1 h2;exact⟨h1,h2⟩
def pc_w{l:LL}{cs:Nat→Int}{k:Nat}(hk:k<l.length)(hw:∀x∈l,LotW x)(hc:0≤cs k∧cs k≤l[k]!.2.2):LotW (pcF l cs k)∧LotW (pcR l cs k):=by
 have:=hw _ (aJ hk)
 unfold LotW at *;simp only[pcF,pcR,pc1,pc2];omega
def wz{l:LL}{cs:Nat→Int}(hw:∀x∈l,LotW x)(hc:∀k,k<l.length→0≤cs k∧cs k≤l[k]!.2.2)(m:Nat)(hm:m≤l.length):(∀x∈divF l cs m,LotW x)∧∀x∈divR l cs m,LotW x:=by
 constructor
 ·refine kz ce ?_;intro x hx;obtain⟨k,hk,rfl⟩:=List.mem_map.1 hx;have a0:=List.mem_range.1 hk;exact(pc_w ab hw (hc k ab)).1
 ·refine kz ce ?_;intro x hx;obtain⟨k,hk,rfl⟩:=List.mem_map.1 hx;have a0:=List.mem_range.1 hk;exact(pc_w ab hw (hc k ab)).2
abbrev Dj:List Stp:=[.ev 0,.ev 1,.ef 2,.ef 3]
def iE{φ ψ:Prop}(k:ψ)(h:Hid ψ→φ:=by intro k;first|refine GO.ci (f:=325) (Hid.out k)|refine GPW.ci (f:=325) (Hid.out k)|refine GO.cf (f:=325) rfl (Hid.out k)|refine GPW.cf (f:=325) rfl (Hid.out k)|refine KX.inA (Hid.out k)):φ:=h ⟨k⟩
def iD{φ ψ:Prop}(k:ψ)(h:Hid ψ→φ:=by intro k;(with_reducible apply G.d7);first|refine G.dr 22 7 Dj (Hid.out k)):φ:=h ⟨k⟩
def aG2{φ ψ:Prop}(k:ψ)(h:Hid ψ→φ:=by intro k;(repeat (first|refine aa ?_|intro zzz|refine iD ?_|refine iE ?_));(repeat revert zzz);exact Hid.out k):φ:=h ⟨k⟩
def nW(g:Nat)(cap:LV)(ad:OA)(c:Nat)(l:LL)(cs:Nat→Int)(C:Nat→HP)(hm:l.length≤1000000)(hw:∀x∈l,LotW x)(hc:∀k,k<l.length→0≤cs k∧cs k≤l[k]!.2.2)(hC:ul g cap l.length cs C) :
  Tri ai 302 #[ah ad l.length c,.func (.func g) #[] cap.toArray] [C 0,isl aj 3 ad l] (fun v L'=>∃a0 c1 ad2 c2,v=.tuple #[ah a0 (divF l cs l.length).length c1,ah ad2 (divR l cs l.length).length c2]∧L' = [osl aj 3 tLot a0 c1 (divF l cs l.length),osl aj 3 tLot ad2 c2 (divR l cs l.length)]):=by
 refine Tri.bd ?_;refine aG2 ?_;intros;rename_i b4 b5 bx bf;refine G.f7 (Bm bx bf g cap ad c l cs C hm hw hc hC) rfl en336.1 ae ?_ (fun k=>[stkO b4 (divF l cs ((k+1) / 2)),stkO b5 (divR l cs (k / 2))]) ?_ ?_ ?_
 ·intro vs a9;obtain⟨k,_,rfl⟩:=List.mem_map.1 a9;unfold pcV;split<;>rfl
 ·simp only[ao,al];rw[show divF l cs ((0+1) / 2)=[] from rfl,show divR l cs (0 / 2)=[] from rfl];refine Ent.trans ?_ (Ent.l0 (none,0) (f:=stkA b4 []) (Ent.refl _));refine Ent.trans ?_ (Ent.append (Ent.refl (stkA b4 [] (none,0))) (Ent.l0 (none,0) (f:=stkA b5 []) (Ent.refl _)));simp only[stkA,cB,ao,al];refine Ent.trans (Ent.d8 aj 3 tLot) (Ent.trans (Ent.d8 aj 3 tLot) ?_);exact ag
 ·intro k hk;have b0:k<2*l.length:=by rw[oR] at hk;exact hk
  rw[xV];obtain⟨m,a4⟩:∃m,m=k / 2:=⟨_,rfl⟩;have a5:m<l.length:=ab;obtain⟨a6,a7⟩:=pc_w a5 hw (hc m a5);have a2:=kn l cs m;have a8:=kn l cs (m+1);have a1:=wz hw hc m ab;unfold pcV;by_cases a3:k % 2=0
  ·rw[if_pos a3,←a4,show(k+1) / 2=m by omega,show(k+1+1) / 2=m+1 by omega,qI];generalize divF l cs m=T at a2 a1;generalize divR l cs m=R;generalize pcF l cs m=x at a6;show G _ _ _ ((12,.bool true)::(11,aO (aj x))::_) _ _;refine G.d9 (f:=stkA b4 T) ?_;rintro⟨a0,c1⟩;simp only[stkA,ao,al];refine aG2 ?_;intros;refine GO.ent (Ent.at (A:=osl aj 3 tLot a0 c1 T) (Ent.refl _)) ?_;refine GO.ca (qv a0 c1 T x ab a1.1 a6) ?_;rintro _ _⟨ad2,c2,rfl,rfl⟩;refine aG2 ?_;intros;refine KX.round ?_;refine Ent.trans ?_ (Ent.l0 (ad2,c2) (f:=stkA b4 (aZ T x)) (Ent.refl _));simp only[stkA,ao,al];exact ag
  ·rw[if_neg a3,←a4,show(k+1) / 2=m+1 by omega,show(k+1+1) / 2=m+1 by omega,nD];generalize divF l cs (m+1)=T;generalize divR l cs m=R at a2 a1;generalize pcR l cs m=x at a7;show G _ _ _ ((12,.bool false)::(11,aO (aj x))::_) _ _;refine G.ent Ent.swap ?_;refine G.d9 (f:=stkA b5 R) ?_;rintro⟨a0,c1⟩;simp only[stkA,ao,al];refine aG2 ?_;intros;refine GO.ent (Ent.at (A:=osl aj 3 tLot a0 c1 R) (Ent.refl _)) ?_;refine GO.ca (qv a0 c1 R x ab a1.2 a7) ?_;rintro _ _⟨ad2,c2,rfl,rfl⟩;refine aG2 ?_;intros;refine KX.round ?_;refine Ent.trans ?_ (Ent.swap (A:=stkO b5 (aZ R x)));refine Ent.trans ?_ (Ent.l0 (ad2,c2) (f:=stkA b5 (aZ R x)) (Ent.refl _));simp only[stkA,ao,al];exact ag
 ·rw[oR,show(2*l.length+1) / 2=l.length by omega,show 2*l.length / 2=l.length by omega];generalize divF l cs l.length=T;generalize divR l cs l.length=R;simp only[aR];refine KX.d8 (KX.g9 ?_);refine G.d9 (f:=stkA b4 T) ?_;rintro⟨a0,c1⟩;refine G.ent (L':=stkO b5 R::stkA b4 T (a0,c1)) (Ent.perm (by simp only[stkA,ao,al];exact(List.Perm.cons _ (List.Perm.swap _ _ _)).trans (List.Perm.swap _ _ _))) ?_;refine G.d9 (f:=stkA b5 R) ?_;rintro⟨ad2,c2⟩;simp only[stkA,ao,al];refine aG2 ?_;intros;refine KX.d7 (vs:=[ah a0 T.length c1,ah ad2 R.length c2]) (ResOk.d7 rfl (ResOk.d7 rfl ResOk.nil)) ?_ ⟨a0,c1,ad2,c2,rfl,rfl⟩;exact ag
def fuR(l:LL)(m:Int):Nat→Int
 | 0=>m
 | k+1=>fuR l m k - min (fuR l m k) l[k]!.2.2
def fuC(l:LL)(m:Int)(k:Nat):Int:=min (fuR l m k) l[k]!.2.2
def ou{l:LL}{m:Int}(h0:0≤m)(hw:∀x∈l,LotW x):∀k,k≤l.length→0≤fuR l m k∧fuR l m k≤m
 | 0,_=>⟨h0,bB _⟩
 | k+1,hk=>by
  have ih:=ou h0 hw k ab;have:=hw _ (aJ (ab:k<l.length))
  unfold LotW at this;simp only[fuR];omega
def ow{l:LL}{m:Int}(h0:0≤m)(hw:∀x∈l,LotW x)(k:Nat)(hk:k<l.length):0≤fuC l m k∧fuC l m k≤l[k]!.2.2:=by
 have h1:=ou h0 hw k ab;have:=hw _ (aJ hk)
 unfold LotW at this;unfold fuC;omega
abbrev tInt:Nat:=3
def fuA(bn bl:Nat)(ad:OA)(c:Nat)(l:LL)(m:Int)(k:Nat):LH:=[obj bn tInt [ac (fuR l m k)],obj bl fJ [ah ad l.length c],isl aj 3 ad l]
abbrev Di:=aH1 []
def vG(bn bl:Nat)(ad:OA)(c:Nat)(l:LL)(m:Int)(hm:l.length≤1000000)(h0:0≤m)(h1:m≤1099511627776)(hw:∀x∈l,LotW x) :
  ul 320 [ay bn,ay bl] l.length (fuC l m) (fun k=>cS (fuA bn bl ad c l m k)):=by
 intro k hk L;have a1:(k:Int).toNat=k:=ab;have hb:=ou h0 hw k ab;have a0:=ow h0 hw k hk;have a2:=hw _ (aJ hk);unfold LotW at a2;unfold fuC at a0;rw[←a1] at a2 a0;rw[a1] at a0;refine Tri.bd (args:=[ac (k:Int),ay bn,ay bl]) ?_;refine G.ent Ent.openS ?_;simp only[fuA,ao,al];repeat first|refine aa ?_|intro _|((with_reducible apply G.d7);first|refine G.dr 17 1 Di ?_)
 rw[a1];exact KX.d7 an (Ent.l6 (A:=[_,_,_]) (L:=L)) ⟨rfl,rfl⟩
def lS{L:LH}(ad:OA)(n c:Nat)(xs:LL)[Rds L ad Lot aj 3 xs](hn:n=xs.length)(hb:xs.length≤4096)(hx:∀l∈xs,LotOk l) :
  Tri ai 262 #[ah ad n c] L (rtQ (ac (lsum xs)) L):=by
 refine Tri.bd ?_;refine JM ?_;intros;refine GO.ca (io ad n c xs hn hb hx) ?_;rintro _ L ⟨rfl,rfl⟩;refine JM ?_;intros;refine GO.ca (rt ad n c xs hn hb hx) ?_;rintro _ L ⟨rfl,rfl⟩;refine JM ?_;intros;exact KX.en ⟨rfl,rfl⟩
def jc{φ ψ:Prop}(k:ψ)(h:Hid ψ→φ:=by intro k;first|refine GO.ci (f:=299) (Hid.out k)|refine GPW.ci (f:=299) (Hid.out k)|refine GO.cf (f:=299) rfl (Hid.out k)|refine GPW.cf (f:=299) rfl (Hid.out k)|refine KX.inA (Hid.out k)):φ:=h ⟨k⟩
def aG3{φ ψ:Prop}(k:ψ)(h:Hid ψ→φ:=by intro k;(repeat (first|refine aa ?_|intro zzz|refine jc ?_));(repeat revert zzz);exact Hid.out k):φ:=h ⟨k⟩
def CE{L:LH}(ad:OA)(c:Nat)(xs:LL)(n:Int)(mixed:Bool)(a2:mixed=false)(hb:xs.length≤4096)(hx:∀l∈xs,LotOk l)(a1:0≤n)(a3:n≤1099511627776) :
  Tri ai 284 #[ah ad xs.length c,ac n,.bool mixed] (isl aj 3 ad xs::L) (fun v L' =>
   (lsum xs<n∧v=.tuple #[ah none 0 0,ah none 0 0,ac 10]∧L' = isl aj 3 ad xs::L) ∨
   (n≤lsum xs∧∃a0 c1 ad2 c2,v=.tuple #[ah a0 (divF xs (fuC xs n) xs.length).length c1,ah ad2 (divR xs (fuC xs n) xs.length).length c2,ac 0]∧L' = osl aj 3 tLot a0 c1 (divF xs (fuC xs n) xs.length)::osl aj 3 tLot ad2 c2 (divR xs (fuC xs n) xs.length)::isl aj 3 ad xs::L)):=by
 subst a2;have hw:∀x∈xs,LotW x:=fun x h=>(hx x h).w;refine Tri.bd ?_;refine aG3 ?_;intros;refine GO.cr (io ad xs.length c xs rfl hb hx) ?_;refine aG3 ?_;intros;refine GO.cr (lS ad xs.length c xs rfl hb hx) ?_;by_cases hs:lsum xs<n
 ·refine aG3 ?_;intros;exact KX.d7 an (Ent.refl _) (.inl ⟨hs,rfl,rfl⟩)
 refine aG3 ?_;intros;rename_i bl bn;refine GO.ent (L':=cS (fuA bn bl ad c xs n 0)::isl aj 3 ad xs::isl aj 3 ad xs::L) ?_ ?_
 ·refine Ent.trans ?_ Ent.l6;simp only[fuA,fuR,ao,al];refine(Ent.at (A:=isl aj 3 ad xs) (Ent.dup (kE _ _ _ _))).trans ?_;refine(Ent.dup (kE _ _ _ _)).trans ?_;exact ag
 (first|refine GO.ef (Ef.call (nW _ _ ad c xs (fuC xs n) (fun k=>cS (fuA bn bl ad c xs n k)) ab hw (ow a1 hw) (vG bn bl ad c xs n ab a1 a3 hw)) rfl cN) ae ?_);rintro _ _⟨_,⟨a0,c1,ad2,c2,rfl,rfl⟩,hL⟩;simp only[ao,al] at hL;subst hL;refine aG3 ?_;intros;exact KX.d7 an (Ent.refl _) (.inr ⟨ab,a0,c1,ad2,c2,rfl,rfl⟩)
structure MvM where
 frm:Int
 to:Int
 item:Int
 n:Int
 parts:LL
 deriving Inhabited,DecidableEq
structure MvV where
 m:MvM
 pad:OA
 pcap:Nat
 deriving Inhabited
def aL(m:MvV):LV:=[ac m.m.frm,ac m.m.to,ac m.m.item,ac m.m.n,ah m.pad m.m.parts.length m.pcap]
def jA(t:MvV):∀u∈aL t,u.oneCell' = true:=by simp[aL,Value.oneCell']
instance:EncC aL:=⟨jA⟩
abbrev mvP(m:MvV):HP:=isl aj 3 m.pad m.m.parts
def ix(m:MvV):PersM (mvP m):=bM _ _ _ _
abbrev tMv:Nat:=74
def mv0:MvV:=⟨⟨0,0,0,0,[]⟩,none,0⟩
def qK{L:LH}(m:MvV)(hl:m.m.parts.length≤1000000) :
  Tri ai 126 #[aO (aL m)] (mvP m::L) (fun v L'=>∃m',v=aO (aL m')∧m'.m=m.m∧L' = mvP m'::mvP m::L):=by
 obtain⟨⟨frm,to,item,n,parts⟩,pad,pcap⟩:=m;dsimp only at hl;refine Tri.bd (args:=[aO (aL ⟨⟨frm,to,item,n,parts⟩,pad,pcap⟩)]) ?_;refine JM ?_;intros;refine GO.ca (hM pad parts.length pcap parts rfl ab) ?_;rintro _ _⟨a1,a0,rfl,rfl⟩;refine JM ?_;intros;refine KX.d7 (by exact ResOk.cell rfl aK (ResOk.nil)) ?_ ⟨⟨⟨frm,to,item,n,parts⟩,a1,a0⟩,rfl,rfl,rfl⟩;refine(Ent.frz a1).trans ?_;exact ag
def dh{α:Type}[Inhabited α]{l:List α}{i:Nat}{x:α}(h:i<l.length):(l.set i x).take (i+1)=l.take i++[x]:=by
 rw[aG (by simpa using h),List.take_set_of_le (aB _)];simp
def yM{L:LH}(ad:OA)(c:Nat)(ms:List MvV)(hl:ms.length≤64)(hp:∀m∈ms,m.m.parts.length≤1000000) :
  Tri ai 125 #[ah ad ms.length c,.func (.func 126) #[] #[]] (isl aL 5 ad ms::allP mvP ms::L) (fun v L'=>∃a3 c' a1,v=ah a3 a1.length c'∧a1.map (·.m)=ms.map (·.m)∧L' = isl aL 5 a3 a1::allP mvP a1::isl aL 5 ad ms::allP mvP ms::L):=by
 refine Tri.bd ?_;by_cases h0:ms.length=0
 ·have e:ms=[]:=aX h0;subst e;refine JM ?_;intros;exact KX.d7 an ((Ent.d9 mvP).trans (Ent.e8 aL 5 none)) ⟨none,0,[],rfl,rfl,rfl⟩
 refine JM ?_;intros;refine GO.ef (Ef.f8 aL mv0 rfl rfl rfl ab ab ab ab) ae ?_;rintro _ _⟨bs,rfl,rfl⟩;rw[show(ms.length:Int).toNat=ms.length by omega];refine JM ?_;intros
 refine G.loop (α:=Nat×List MvV) (fun z=>z.1≤ms.length∧z.2.length=ms.length∧(z.2.take z.1).map (·.m)=(ms.take z.1).map (·.m)) (fun z=>[(1,.func (.func 126) #[] #[]),(5,ah (some ⟨bs,0,none⟩) ms.length ms.length),(14,ah ad ms.length c),(15,ac (ms.length:Int)),(16,ac (z.1:Int))])
  (fun z=>osl aL 5 tMv (some ⟨bs,0,none⟩) ms.length z.2::allP mvP (z.2.take z.1)::isl aL 5 ad ms::allP mvP ms::L) (fun z=>ms.length - z.1) (0,List.replicate ms.length mv0) ⟨ax _,by simp,by simp⟩ av ?_ ?_
 ·dsimp only;rw[bK];refine(Ent.d9 mvP).trans ?_;exact ag
 rintro⟨i,zs⟩ ⟨hi,a6,a0⟩;dsimp only at hi a6 a0 ⊢;by_cases a2:i<ms.length
 case neg =>
  have a7:i=ms.length:=ab;subst a7;rw[aD ab,aD ab] at a0;rw[aD (ab:zs.length≤ms.length)];refine JM ?_;intros;refine KX.d7 an (Ent.freezeSl) ⟨some ⟨bs,0,none⟩,ms.length,zs,by rw[a6];rfl,a0,rfl⟩
 have a4:(i:Int).toNat=i:=ab;have a5:ms[i]!∈ms:=aJ a2;refine JM ?_;intros;rw[a4];refine GO.ent (Ent.at (A:=allP mvP ms) (Ent.e7 (x:=ms[i]!) a5)) ?_;refine GO.ef (Ef.d8 rfl rfl (qK ms[i]! (hp _ a5))) ae ?_;rintro _ _⟨m',rfl,a8,rfl⟩;refine JM ?_;intros;refine GO.efu (Ef.f7 (e:=m') rfl rfl aK aK (jA _) ab) ?_;rintro _ _ rfl;rw[a4];refine JM ?_;intros;refine⟨(i+1,zs.set i m'),⟨by dsimp only;omega,by dsimp only;simp;omega,?_⟩,by dsimp only;omega,?_,?_⟩
 ·dsimp only;rw[dh ab,aG a2,aW,aW,a0,←getElem!_of a2];simp[a8]
 ·dsimp only;rw[aY i];exact av
 ·dsimp only;rw[dh ab];refine Ent.d7 ?_;refine Ent.trans (B:=allP mvP (zs.take i)::mvP m'::isl aL 5 ad ms::allP mvP ms::L) ag ?_;exact(Ent.d7 (Ent.f8 ix)).trans (Ent.g7 ix)
structure StM where
 id:Int
 kind:Int
 actor:Int
 tick:Int
 rule:Int
 times:Int
 moves:List MvM
 deriving Inhabited
structure StV where
 id:Int
 kind:Int
 actor:Int
 tick:Int
 rule:Int
 times:Int
 moves:List MvV
 mad:OA
 mcap:Nat
 deriving Inhabited
def StV.m(s:StV):StM:=⟨s.id,s.kind,s.actor,s.tick,s.rule,s.times,s.moves.map (·.m)⟩
def aN(s:StV):LV:=[ac s.id,ac s.kind,ac s.actor,ac s.tick,ac s.rule,ac s.times,ah s.mad s.moves.length s.mcap]
def jz(t:StV):∀u∈aN t,u.oneCell' = true:=by simp[aN,Value.oneCell']
instance:EncC aN:=⟨jz⟩
abbrev stM(s:StV):HP:=isl aL 5 s.mad s.moves
abbrev stP(s:StV):HP:=allP mvP s.moves
def np(s:StV):PersM (stM s):=bM _ _ _ _
def qJ{L:LH}(s:StV)(hl:s.moves.length≤64)(hp:∀m∈s.moves,m.m.parts.length≤1000000) :
  Tri ai 68 #[aO (aN s)] (stM s::stP s::L) (fun v L'=>∃s',v=aO (aN s')∧s'.m=s.m∧L' = stM s'::stP s'::stM s::stP s::L):=by
 obtain⟨i0,i1,i2,i3,i4,i5,ms,mad,mcap⟩:=s;dsimp only at hl hp;refine Tri.bd (args:=[aO (aN ⟨i0,i1,i2,i3,i4,i5,ms,mad,mcap⟩)]) ?_;refine JM ?_;intros;refine GO.ent (Ent.at (A:=isl aL 5 mad ms) (Ent.d7 (Ent.at (A:=allP mvP ms) (Ent.refl _)))) ?_;refine GO.ca (yM mad mcap ms hl hp) ?_;rintro _ _⟨a0,c',a2,rfl,a1,rfl⟩;refine JM ?_;intros;refine KX.d7 (by exact ResOk.cell rfl aK (ResOk.nil)) ?_ ⟨⟨i0,i1,i2,i3,i4,i5,a2,a0,c'⟩,rfl,by simp only[StV.m,a1],rfl⟩;exact ag
