/- Lemmas. -/
import Derived.Test.YtommnllbflbdmaaGreatDoorCatah
import Derived.Test.YtommnllbflbdmaaGreatDoorCatT
import Derived.Sort.Grow
import Derived.Lib.SlicesCompact
set_option linter.all false
set_option maxHeartbeats 1000000
namespace Go.Proofs.YtommnllbflbdmaaGreatDoor
open Go.V
instance:TyIS ai 46 3:=TyIS.of krStd0 krStd0 krStd0 krStd0 krStd0
instance:TyIS ai 91 3:=TyIS.of krStd0 krStd0 krStd0 krStd0 krStd0
instance:TyIS ai 133 2:=TyIS.of krStd0 krStd0 krStd0 krStd0 krStd0
instance:TyArr ai 116 2 3 1:=⟨krStd0,krStd0⟩
instance:TyArr ai 359 128 5 1:=⟨krStd0,krStd0⟩
instance:TyG ai 101 116 72 (ae none 0 0):=⟨krStd0,krStd0⟩
instance:TyG ai 102 3 3 (ac 0):=⟨krStd0,krStd0⟩
instance:KeyT ai 3 kvI:=keyI
instance:TyG ai 103 3 72 (ae none 0 0):=⟨krStd0,krStd0⟩
instance:TyG ai 115 116 3 (ac 0):=⟨krStd0,krStd0⟩
instance:TyG ai 124 133 72 (ae none 0 0):=⟨krStd0,krStd0⟩
instance:KeyT ai 133 kvP:=keyP
instance:TyG ai 304 9 4 (.bool false):=⟨krStd0,krStd0⟩
instance:KeyT ai 9 kvS:=keyS
end Go.Proofs.YtommnllbflbdmaaGreatDoor
namespace Go.V
section
section
variable {P:Program}{N:Nat}{env:Env}{L:LH}{ty:TypeId}{v:Value}
def Ev.n8{t E:TypeId}{x y:Operand}{a b:Int}[ht:TyArr P t 2 E 1][hz:ZeroT P t [ac 0,ac 0]](hx:evE env x=some (ac a))(hy:evE env y=some (ac b)) :
  Ev P L env (.build t #[(0,x),(1,y)]) ty (.agg #[ac a,ac b]) :=
 Ev.mk (fun θ R ρ w ea s _ _ _ _=>by
  obtain⟨z0,h1,h2⟩:=hz.run w;have c1:(Value.int .i64 a).cells=#[ac a]:=rfl;have c2:(Value.int .i64 b).cells=#[ac b]:=rfl;simp[execOp,aP ea hx,aP ea hy,Instr.build,Sem.run_bind,h1,Result.andThen_ok,run_underlying ht.under,ht.sizeOf_run,h2,Instr.fill,c1,c2])
end
end
section
open Go.Sort
def vb{d:List Int}{a0:Array Value}{m:Nat}(hm:m≤d.length)(hc:d.length≤a0.size):(putCells (Value.int .i64) 0 d.toArray a0).toList.take (m*1)=(d.take m).flatMap (encZ .i64):=by
 rw[nv,Nat.mul_one];apply gY;intro i;by_cases hi:i<m
 ·have h1:i<d.length:=ab;have h2:i<a0.size:=ab;rw[List.getElem?_take,if_pos hi];simp[putCells,h1,h2,hi]
 ·rw[List.getElem?_take,if_neg hi];simp;omega
def Sat.putRow{θ:Th}{g E:Nat}{a1:Array Value}{R:LH}{w:World}{d:Array Int}{n:Nat}{os:Array Obj}(s:Sat θ (own g (.cells a1 E (0,0))::R) w) :
  Sat θ (own g (.cells (putCells (Value.int .i64) 0 d a1) E (0,0))::R) (grow (Sort.putRow (Value.int .i64) (Sort.ahead w n) g 0 d) os):=by
 have hb:=s.own_heap;have a2:g<w.heap.size:=(Array.getElem?_eq_some_iff.1 hb).1;refine s.update ⟨s.1.tape,s.1.os,s.1.output,cN s.1.drawn (dX _ _)⟩ ?_ ?_
 ·show(w.heap.modify g (onCells (putCells (Value.int .i64) 0 d))++os)[g]? = _;rw[Array.getElem?_append_left (by simpa using a2),Array.getElem?_modify,if_pos rfl,hb];rfl
 ·intro k x hk hx;have a0:k<w.heap.size:=(Array.getElem?_eq_some_iff.1 hx).1;show(w.heap.modify g (onCells (putCells (Value.int .i64) 0 d))++os)[k]? = _;rw[Array.getElem?_append_left (by simpa using a0),Array.getElem?_modify,if_neg (fun e=>hk e.symm),hx]
def EJ{g E:Nat}{a0:Array Value}{xs:List Int}{w:World}(hb:w.heap[g]? = some (.cells a0 E (0,0)))(ht:a0.toList.take (xs.length*1)=xs.flatMap (encZ .i64)):Holds (Value.int .i64) w g 0 xs.toArray:=by
 intro j hj;have a1 : j<xs.length:=by simpa using hj
 refine⟨?_,by simp[World.frozen?,hb]⟩;rw[dj,eV hb];have h:(a0.toList.take (xs.length*1))[j]? = (xs.flatMap (encZ .i64))[j]?:=by rw[ht]
 rw[nv,List.getElem?_take,if_pos ab] at h;simp[a1] at h;simp[a1,h]
def Tri.f8{P:Program}{f:FuncId}{E cap:Nat}{ad:OA}{xs ys:List Int}{L:LH}(he:Enters P f)(a5:ys.length=xs.length)(a7:xs.length<4611686018427387904)
  (h0:xs.length=0→∀w,Calls P f #[.slice ad 0 cap] w fun e w'=>e=.returned (.tuple #[])∧w' = w)
  (h1:∀a0 w,Holds (Value.int .i64) w a0 0 xs.toArray→a0<w.heap.size→Calls P f #[.slice (some ⟨a0,0,none⟩) xs.length cap] w fun e w'=>e=.returned (.tuple #[])∧∃n os,w' = grow (Sort.putRow (Value.int .i64) (Sort.ahead w n) a0 0 ys.toArray) os) :
  Tri P f #[.slice ad xs.length cap] (osl (encZ .i64) 1 E ad cap xs::L) (fun v L'=>v=.tuple #[]∧L' = osl (encZ .i64) 1 E ad cap ys::L):=by
 refine⟨he,fun θ R w s=>?_⟩;by_cases hx:xs.length=0
 ·have e1:xs=[]:=aW hx;have e2:ys=[]:=aW ab;subst e1 e2;refine(h0 rfl w).mono ?_;rintro e w' ⟨rfl,rfl⟩;exact⟨_,_,rfl,⟨rfl,rfl⟩,s⟩
 obtain⟨a1,a2,a3,a4⟩:=Sat.osl_parts (L:=L++R) s;rcases a4 with⟨rfl,rfl⟩|⟨g,a6,rfl,b1,b2,b3⟩
 ·omega
 have hb:=b3.own_heap;refine(h1 g w (EJ hb b2) (Array.getElem?_eq_some_iff.1 hb).1).mono ?_;rintro e w' ⟨rfl,n,os,rfl⟩;refine⟨_,_,rfl,⟨rfl,rfl⟩,?_⟩;refine Sat.osl_mk (L:=L++R) (Sat.putRow b3) (fun _ _=>rfl) ab a3 ?_ ?_
 ·simp[putCells,b1]
 ·rw[vb (aI _) (by rw[b1];omega),cd]
end
section
section fv
variable {P:Program}{N:Nat}{env:Env}{L:LH}{K:Post}{ty:TypeId}
def DD(P:Program)(gf:FuncId)(cap:LV)(a0:List (LV))(Lg Lx:LH):Prop :=
 ∀(l:Nat) (J Jx:Nat→HP),(∀k (hk:k<a0.length),YTri P l a0[k] [J k] (fun v L'=>(v=.bool true∧L' = [J (k+1)])∨(v=.bool false∧L' = [Jx k]))) →
  Tri P gf (.func (.yield l) #[] #[]::cap).toArray (J 0::Lg) (fun _ L'=>L' = J a0.length::Lx∨∃k,L' = Jx k::Lx)
def G.g9{g:Operand}{ps:Array Tmp}{assign body:Code}{gf:FuncId}{cap:LV}{a2:List (LV)}{Lg Lx:LH}(it:DD P gf cap a2 Lg Lx)(hg:evE env g=some (.func (.func gf) #[] cap.toArray))
  (b2:Enters P gf) (b5:∀p∈ps,p<N) (a7:∀vs∈a2,vs.length=ps.size) (I:Nat→LH) (hl:Ent L (I 0++Lg))
  (a4:∀k (hk:k<a2.length),G P N assign (penv env (ps.toList.zip a2[k])) (I k) (Post.seq (fun env' L'=>G P N body env' L' (te K env Lx (I (k+1)))) (fun _ _ _=>False)))
  (a5:K .normal env (I a2.length++Lx)):G P N (.rangeFunc g ps assign body) env L K:=by
 intro r θ Y a w hr i;obtain⟨M,ea,hm,s⟩:=i;have s0:Sat θ (I 0++Lg++(mkH M++Y)) w:=hl θ _ w s;-- what is the same in both cases
 have a6:∀(fn:FuncId) (l D:Nat) (a0:List Nat) (w₁:World),(Instr.enterLoop fn a.tmps ps assign body r).run P w=.ok (l,mkD a0) w₁ →
   Sat θ (own l (.loop { state:=.ready,pending:=none,fn,tmps:=a.tmps,params:=ps,assign,body,defers:=D })::(mkH a0++(I 0++Lg++(mkH M++Y)))) w₁ →
   ∃(l:Nat) (a0:List Deferred) (w₁:World) (d:Deferred) (w₁' : World) (f:FuncId) (args:Array Value) (w₂:World),
   (Instr.enterLoop fn a.tmps ps assign body (FW r).round).run P w=.ok (l,a0) w₁ ∧
   (resolve a.eval (rangeCall g l) 0).run P w₁=.ok d w₁' ∧
   (∀f',Target.leads P w₁' d.target d.args=some f'→(FW r).fn f') ∧
   (invoke d.target d.args).run P w₁' = .ok (.enter f args) w₂ ∧
   ((FW r).depth.isSome=true→1≤0) ∧
   CallsIn (FW r) (0 - 1) P f args w₂ (rangePost (FW r) 0 P l (QK θ Y N K) { a with defers:=a0++a.defers }):=by
  intro fn l D a0 w₁ he s1;obtain⟨a1,a3⟩:∃a1:Loop,a1={ state:=.ready,pending:=none,fn,tmps:=a.tmps,params:=ps,assign,body,defers:=D }:=⟨_,rfl⟩;rw[←a3] at s1;have b0:a1.state=.ready:=by rw[a3]
  have a9:a1.pending=none:=by rw[a3]
  have hy:∀k (hk:k<a2.length),YTri P l a2[k] [cY (own l (.loop a1)::I k)] (fun v L'=>(v=.bool true∧L' = [cY (own l (.loop a1)::I (k+1))])∨(v=.bool false∧L' = [hex fun x:Code×LH=>cY (dy (jy K env Lx x.1 x.2)::own l (.loop { a1 with state:=.done,pending:=some x.1 })::x.2)])):=by
   intro k hk;refine su b0 a9 (by rw[a3];exact a7 _ (eO _)) (by rw[a3];exact b5) (env:=env) ?_ ?_
   ·rw[a3];exact⟨ea.size,ea.at_⟩
   ·rw[a3];exact a4 k hk
  have ht:=it l (fun k=>cY (own l (.loop a1)::I k)) (fun _=>hex fun x:Code×LH=>cY (dy (jy K env Lx x.1 x.2)::own l (.loop { a1 with state:=.done,pending:=some x.1 })::x.2)) hy;have b3:a.eval g=.func (.func gf) #[] cap.toArray:=aP ea.agr hg;refine⟨l,mkD a0,w₁,{ target:=.fn (.func gf) cap.toArray,args:=#[.func (.yield l) #[] #[]] },w₁,gf,(.func (.yield l) #[] #[]::cap).toArray,w₁,he,?_,fun _ _=>trivial,?_,(fun h=>by cases h),oN ?_⟩
  ·simp only[resolve,Deferred.ofValue,b3];simp[Act.eval]
  ·have:=b2 (.func (.yield l) #[] #[]::cap).toArray w₁
   simpa [invoke] using this
  have s2:Sat θ (cY (own l (.loop a1)::I 0)::Lg++(mkH a0++(mkH M++Y))) w₁:=by
   refine Sat.d7 (A:=own l (.loop a1)::I 0) (s1.perm ?_);simp only[ak];refine List.Perm.cons _ ?_;rw[aF];refine perm_front.trans ?_;refine List.Perm.append_left _ ?_;exact perm_front
  refine(ht.calls θ _ w₁ s2).mono ?_;rintro e w₂ ⟨v,L',rfl,b1,s3⟩;rcases b1 with rfl|⟨k,rfl⟩
  ·have s4:Sat θ (own l (.loop a1)::(I a2.length++(Lx++(mkH a0++(mkH M++Y))))) w₂:=Sat.ofStars (A:=own l (.loop a1)::I a2.length) s3;have hh:=s4.own_heap;refine⟨none,_,(by rw[←a9];exact lR hh (by rw[b0];simp)),?_⟩;have s5:=(Sat.d8 (rec':={ a1 with state:=.exhausted }) s4).tail;refine⟨env,I a2.length++Lx,⟨a0++M,⟨ea.size,ea.at_⟩,by simp[mkD,hm],?_⟩,a5⟩;have e:mkH (a0++M)++Y=mkH a0++(mkH M++Y):=by simp[mkH]
   rw[e,aF];exact s5
  ·obtain⟨⟨c,L₂⟩,s4⟩:=Sat.ofHex (L:=Lx++(mkH a0++(mkH M++Y))) s3;have s5:Sat θ (dy (jy K env Lx c L₂)::(own l (.loop { a1 with state:=.done,pending:=some c })::(L₂++(Lx++(mkH a0++(mkH M++Y)))))) w₂:=Sat.ofStars (A:=dy (jy K env Lx c L₂)::own l (.loop { a1 with state:=.done,pending:=some c })::L₂) s4;have hj:=s5.ofPure;have s6:=s5.tail;have hh:=s6.own_heap;have s7:=(Sat.d8 (rec':={ ({ a1 with state:=.done,pending:=some c }:Loop) with state:=.exhausted }) s6).tail;refine⟨some c,_,lR hh bH,?_⟩
   have a8:At N env (L₂++Lx) θ Y { a with defers:=mkD a0++a.defers } { w₂ with heap:=w₂.heap.setIfInBounds l (.loop { ({ a1 with state:=.done,pending:=some c }:Loop) with state:=.exhausted }) }:=by
    refine⟨a0++M,⟨ea.size,ea.at_⟩,by simp[mkD,hm],?_⟩;have e:mkH (a0++M)++Y=mkH a0++(mkH M++Y):=by simp[mkH]
    rw[e,aF];exact s7
   cases c with
   | ret=>exact wpIn_ret ⟨env,_,a8,hj⟩
   | exit id=>exact wpIn_exit ⟨env,_,a8,hj⟩
   | _=>exact hj.elim
 refine wpIn_rangeFunc fun fn _=>?_;cases r with
 | none =>
  have s1:=s0.alloc (o:=.deferred (some []));have s2:=s1.alloc (o:=.loop { state:=.ready,pending:=none,fn,tmps:=a.tmps,params:=ps,assign,body,defers:=w.heap.size });refine a6 fn (w.heap.size+1) w.heap.size [w.heap.size] _ lY ?_;rw[World.size_alloc] at s2;exact s2
 | some l =>
  obtain⟨a1,Y',hY⟩:=hr l rfl
  have b4:w.heap[l]? = some (.loop a1):=by
   have s1:Sat θ (own l (.loop a1)::(I 0++Lg++(mkH M++Y'))) w:=s0.perm (by
    have h1:(I 0++Lg++(mkH M++Y)).Perm (I 0++Lg++(mkH M++(own l (.loop a1)::Y'))):=(hY.append_left _).append_left _;refine h1.trans ?_;rw[←aF,←aF (I 0++Lg)];exact fZ)
   exact s1.own_heap
  exact a6 fn w.heap.size a1.defers [] _ (lX b4) s0.alloc
def Ent.openS{A L:LH}:Ent (cY A::L) (A++L):=fun θ R w s=>by
 have h:Sat θ (A++(L++R)) w:=Sat.ofStars (L:=L++R) s;rw[aF];exact h
def Ent.l9{A L:LH}:Ent (A++L) (cY A::L):=fun θ R w s=>by
 rw[aF] at s;exact Sat.d7 s
def andP(A B:HP):HP:=fun ι _=>A ι Hp.emp∧B ι Hp.emp
def PersM.and{A B:HP}(hA:PersM A)(hB:PersM B):PersM (andP A B) :=
 ⟨fun _ _ h=>h,fun ι ι' _ hs h=>⟨hA.mono ι ι' _ hs h.1,hB.mono ι ι' _ hs h.2⟩⟩
def Ent.andE{A B:HP}{L:LH}:Ent (andP A B::L) (A::B::L):=fun θ R w s=>by
 obtain⟨ok,ι,h',a,b1,c,ι₀,h₁,h₂,d1,d2,d3,d4,d5,d6⟩:=s;exact⟨ok,ι,h',a,b1,c,ι₀,Hp.emp,h₂,d1,Hp.d8 _,Hp.d7 _,d4,d5.1,ι₀,Hp.emp,h₂,d1,Hp.d8 _,Hp.d7 _,Hp.sub.refl _,d5.2,d6⟩
def Ent.e8{A B:HP}{L:LH}(hA:PersM A)(hB:PersM B):Ent (A::B::L) (andP A B::L):=fun θ R w s=>by
 obtain⟨ok,ι,h',a,b1,c,ι₁,h₁,h₂,d1,d2,d3,d4,d5,ι₂,h₃,h₄,e1,e2,e3,e4,e5,e6⟩:=s;exact⟨ok,ι,h',a,b1,c,ι,Hp.emp,h₄,Hp.sub.refl _,Hp.d8 _,Hp.d7 _,e4.trans d4,⟨hA.mono _ _ _ d1 (hA.pers _ _ d5),hB.mono _ _ _ e1 (hB.pers _ _ e5)⟩,e6⟩
def cG{α:Type}{f:α→HP}{l:List α}(hf:∀x,PersM (f x)):PersM (allP f l) :=
 ⟨fun _ _ h=>h,fun ι ι' _ hs h x hx=>(hf x).mono ι ι' _ hs (h x hx)⟩
end fv
end
end Go.V
namespace Go.Proofs.YtommnllbflbdmaaGreatDoor
section
open Go.V
attribute [local irreducible] G GO GP GPW GPK Ev Ef EfR Ent CB GB Enters
def getElem!_of{α:Type}[Inhabited α]{l:List α}{i:Nat}(h:i<l.length):l[i]! = l[i]:=by
 rw[List.getElem!_eq_getElem?_getD,List.getElem?_eq_getElem h];rfl
def I64(n:Int):Prop:=-9223372036854775808≤n∧n≤9223372036854775807
def aL{α:Type}[Inhabited α]{l:List α}{i:Nat}(h:i<l.length):l[i]!∈l:=by rw[getElem!_of h];exact eO h
def fA{α:Type}[Inhabited α]{l:List α}{k:Nat}(h:k<l.length):l.drop k=l[k]!::l.drop (k+1):=by
 rw[dO h,getElem!_of h]
def eD{α β:Type}[Inhabited α][Inhabited β](f:α→β){l:List α}{k:Nat}(h:k<l.length):(l.map f)[k]! = f l[k]!:=by
 rw[getElem!_of (by simpa using h),getElem!_of h];simp
abbrev Lot:=Int×Int×Int
abbrev LL1:=List Lot
def ay(l:Lot):LV:=[ac l.1,ac l.2.1,ac l.2.2]
def dH(t:Lot):∀u∈ay t,u.oneCell' = true:=by simp[ay,Value.oneCell']
instance:EncC ay:=⟨dH⟩
structure Stk where
 ad:OA
 cap:Nat
 lots:LL1
 deriving Inhabited
def Stk.v(s:Stk):Value:=ae s.ad s.lots.length s.cap
abbrev stkP(s:Stk):HP:=isl ay 3 s.ad s.lots
def nL(s:Stk):PersM (stkP s):=bI _ _ _ _
def encN(n:Int):Value:=ac n
abbrev tLot:Nat:=91
def gV{L:LH}(ad:OA)(n c:Nat)(xs:LL1)[Rds L ad Lot ay 3 xs](hn:n=xs.length)(hb:n≤1000000) :
  Tri ai 127 #[ae ad n c] L (fun v L'=>∃a1 a0,v=ae a1 xs.length a0∧L' = osl ay 3 tLot a1 a0 xs::L):=by
 refine Tri.bd ?_;repeat' first|refine aa ?_|intro _|with_reducible refine CB.dec (fun _=>?_) (fun _=>?_)|with_reducible refine GB.dec (fun _=>?_) (fun _=>?_)|with_reducible refine CB.bool (fun _=>?_) (fun _=>?_)|with_reducible refine GB.bool (fun _=>?_) (fun _=>?_)
 ·have h:ad=none:=by assumption
  subst h;refine KX.l7 (.inl rfl) (nO (L:=L) (xs:=xs)) ?_;intro hx;subst hx;refine KX.d7 av (Ent.d8 ay 3 tLot) ⟨_,_,rfl,rfl⟩
 ·refine GO.ent (Ent.e9 (enc:=ay) (sz:=3) (xs:=[]) rfl rfl bH bH) ?_;refine GO.ef (Ef.j0 rfl rfl rfl rfl hn (fun e _=>dH e) fy fy) ag ?_;rintro _ _⟨a1,a0,rfl,rfl⟩;refine IF ?_;intros;refine KX.d7 av (Ent.refl _) ⟨a1,a0,rfl,rfl⟩
def LotOk(l:Lot):Prop:=0≤l.1∧0≤l.2.1∧l.2.1≤1099511627776∧1≤l.2.2∧l.2.2≤1099511627776 - l.2.1
def jf{φ ψ:Prop}(k:ψ)(h:Hid ψ→φ:=by intro k;first|refine GO.ci (f:=267) (Hid.out k)|refine GPW.ci (f:=267) (Hid.out k)|refine GO.cf (f:=267) rfl (Hid.out k)|refine GPW.cf (f:=267) rfl (Hid.out k)|refine KX.inA (Hid.out k)):φ:=h ⟨k⟩
def aq5{φ ψ:Prop}(k:ψ)(h:Hid ψ→φ:=by intro k;(repeat (first|refine aa ?_|intro zzz|refine jf ?_));(repeat revert zzz);exact Hid.out k):φ:=h ⟨k⟩
def hD{L:LH}(ad:OA)(n c:Nat)(xs:LL1)[Rds L ad Lot ay 3 xs](hn:n=xs.length)(hb:xs.length≤4096)(hx:∀l∈xs,LotOk l) :
  Tri ai 261 #[ae ad n c] L (rtQ (.bool true) L):=by
 refine Tri.bd ?_;refine aq5 ?_;intros;refine G.loop (α:=Nat) (fun i=>i≤n) (fun i=>[(0,ae ad n c),(8,ae ad n c),(9,ac n),(10,ac (i:Int))]) (fun _=>L) (fun i=>n - i) 0 (az _) an (Ent.refl _) ?_;intro i hi;by_cases a1:i<n
 case neg =>
  refine aq5 ?_;intros;exact KX.en ⟨rfl,rfl⟩
 obtain⟨o1,o2,o3,o4,o5⟩:=hx _ (aL (ab:i<xs.length));have a0:(i:Int).toNat=i:=ab;rw[←a0] at o1 o2 o3 o4 o5;refine aq5 ?_;intros;rw[aZ o5];refine aq5 ?_;intros;refine⟨i+1,ab,ab,?_,?_⟩
 ·rw[aU i];exact an
 ·exact ah
def glk{κ α:Type}[DecidableEq κ](m:List (κ×α))(k:κ):Option α:=m.lookup k
def oG{κ α:Type}[DecidableEq κ]{m:List (κ×α)}{k:κ}{a:α}:∀p∈gins m k a,p∈(k,a)::m:=by
 intro p hp;unfold gins at hp;split at hp
 ·obtain⟨q,hq,rfl⟩:=List.mem_map.1 hp;split
  ·exact au ..
  ·exact aw _ hq
 ·rcases List.mem_append.1 hp with h|h
  ·exact aw _ h
  ·simp at h;subst h;exact au ..
def Gl{κ α:Type}[DecidableEq κ](m:List (κ×α))(k:κ)(a:α):(gins m k a).length≤m.length+1:=by
 unfold gins;split<;>simp
def lsum(xs:LL1):Int:=xs.foldl (fun s l=>s+l.2.2) 0
def fC(xs:LL1){i:Nat}(h:i<xs.length):lsum (xs.take (i+1))=lsum (xs.take i)+xs[i]!.2.2:=by
 unfold lsum;rw[aC h,cB,getElem!_of h];rfl
def jH{xs:LL1}(h:∀l∈xs,LotOk l):∀i,i≤xs.length→0≤lsum (xs.take i)∧lsum (xs.take i)≤(i:Int)*1099511627776:=by
 intro i;induction i with
 | zero=>intro _;simp[lsum]
 | succ i ih =>
  intro hi;obtain⟨h1,h2⟩:=ih ab;obtain⟨o1,o2,o3,o4,o5⟩:=h _ (aL (ab:i<xs.length));rw[fC xs ab];have:((i+1:Nat):Int)*1099511627776=(i:Int)*1099511627776+1099511627776:=ab
  rw[this];omega
def qK{L:LH}(ad:OA)(n c:Nat)(xs:LL1)[Rds L ad Lot ay 3 xs](hn:n=xs.length)(hb:xs.length≤4096)(hx:∀l∈xs,LotOk l) :
  Tri ai 71 #[ae ad n c] L (rtQ (ac (lsum xs)) L):=by
 refine Tri.bd ?_;refine IF ?_;intros;refine G.loop (α:=Nat) (fun i=>i≤n) (fun i=>[(0,ae ad n c),(3,ac (lsum (xs.take i))),(6,ae ad n c),(7,ac n),(8,ac (i:Int))]) (fun _=>L) (fun i=>n - i) 0 (az _) an (Ent.refl _) ?_;intro i hi;by_cases a1:i<n
 case neg =>
  rw[aB (ab:xs.length≤i)];refine IF ?_;intros;exact KX.en ⟨rfl,rfl⟩
 have a0:=jH hx i ab;obtain⟨o1,o2,o3,o4,o5⟩:=hx _ (aL (ab:i<xs.length));have hs:=fC xs (ab:i<xs.length);have hm:(i:Int)*1099511627776≤4096*1099511627776:=cF ab ag;refine IF ?_;intros;rw[aD];refine IF ?_;intros;refine⟨i+1,ab,ab,?_,Ent.drop⟩;rw[hs,aU i];exact an
def Ev.r7{P:Program}{L:LH}{env:Env}{ty:TypeId}{t f off:Nat}{x:Operand}{cs:LV}{v:Value}{fs:Array Field}{fd:Field}(h1:P.underlying t=some (.struct fs))(h2:fs[f]? = some fd)(h3:fd.offset=off)(h4:∀w,(isAgg fd.type).run P w=.ok false w)
  (hx:evE env x=some (aN cs)) (hv:cs[off]? = some v):Ev P L env (.field t x f) ty v :=
 Ev.mk (fun θ R _ w ea s _ _ _ _=>by
  simp[execOp,aP ea hx,Instr.field,run_underlying h1,h2,h3,asAgg,part,h4,hv])
def aV(a:Int×Int):LV:=[ac a.1,ac a.2]
def gE(t:Int×Int):∀u∈aV t,u.oneCell' = true:=by simp[aV,Value.oneCell']
instance:EncC aV:=⟨gE⟩
def LotW(l:Lot):Prop:=0≤l.1∧0≤l.2.1∧0≤l.2.2∧l.2.1+l.2.2≤1099511627776
def LotOk.w{l:Lot}(h:LotOk l):LotW l:=by unfold LotOk at h;unfold LotW;omega
def lm(x b:Lot):Prop:=[x.1,x.2.1,0]=[b.1,b.2.1+b.2.2,0]
instance (x b:Lot):Decidable (lm x b):=by unfold lm;infer_instance
def lcont_iff{x b:Lot}:lm x b↔x.1=b.1∧x.2.1=b.2.1+b.2.2:=by simp[lm]
def ba(l:LL1)(x:Lot):LL1 :=
 if x.2.2=0 then l else if l.length≠0∧lm x l[l.length - 1]! then l.set (l.length - 1) (l[l.length - 1]!.1,l[l.length - 1]!.2.1,l[l.length - 1]!.2.2+x.2.2) else l++[x]
def kP(l:LL1)(x:Lot):(ba l x).length≤l.length+1:=by
 unfold ba;split
 ·omega
 ·split<;>simp
def qy{l:LL1}{x:Lot}(h:∀y∈l,LotW y)(hx:LotW x):∀y∈ba l x,LotW y:=by
 unfold ba;split
 ·exact h
 ·split
  ·rename_i hc;obtain⟨a1,a0⟩:=hc;rw[lcont_iff] at a0;intro y hy;rcases bX hy with hy|rfl
   ·exact h y hy
   ·have:=h _ (aL (ab:l.length - 1<l.length))
    unfold LotW at this hx ⊢;dsimp only;omega
  ·intro y hy;rcases List.mem_append.1 hy with hy|hy
   ·exact h y hy
   ·rw[List.mem_singleton] at hy;subst hy;exact hx
def kB{xs:LL1}:∀{l:LL1},(∀y∈l,LotW y)→(∀y∈xs,LotW y)→∀y∈xs.foldl ba l,LotW y:=by
 induction xs with
 | nil=>intro l h _;exact h
 | cons x xs ih =>
  intro l h hx;exact ih (qy h (hx x (au ..))) (fun y hy=>hx y (aw _ hy))
def iR(xs:LL1):∀l:LL1,(xs.foldl ba l).length≤l.length+xs.length:=by
 induction xs with
 | nil=>intro l;simp
 | cons x xs ih =>
  intro l;have h1:=ih (ba l x);have h2:=kP l x;simp only[fF,bE];omega
def CP{L:LH}(x b:Lot)(hb:LotW b):Tri ai 289 #[aN (ay x),aN (ay b)] L (rtQ (.bool (dB (lm x b))) L):=by
 unfold LotW at hb;refine Tri.bd ?_;refine IF ?_;intros;exact KX.en ⟨rfl,rfl⟩
abbrev BZ:=ar5 [.ev 8,.ef 9,.ev 10]
abbrev BY:=ar6 [.ev 10,.ef 11]
def IG{φ ψ:Prop}(k:ψ)(h:Hid ψ→φ:=by intro k;(repeat (first|refine aa ?_|intro zzz|refine G.dr 39 4 BZ ?_|refine G.dr 39 5 BY ?_));(repeat revert zzz);exact Hid.out k):φ:=h ⟨k⟩
def pM{L:LH}(ad:OA)(cap:Nat)(xs:LL1)(x:Lot)(hl:xs.length≤100000000)(a6:∀y∈xs,LotW y)(hx:LotW x) :
  Tri ai 268 #[ae ad xs.length cap,aN (ay x)] (osl ay 3 tLot ad cap xs::L) (fun v L'=>∃a5 a1,v=ae a5 (ba xs x).length a1∧L' = osl ay 3 tLot a5 a1 (ba xs x)::L):=by
 refine Tri.bd ?_;by_cases h0:x.2.2=0
 ·have e:ba xs x=xs:=by unfold ba;rw[if_pos h0]
  rw[e];refine IG ?_;intros;exact KX.en ⟨ad,cap,rfl,rfl⟩
 by_cases h1:xs.length=0
 ·have e:ba xs x=xs++[x]:=by unfold ba;rw[if_neg h0,if_neg (fun h=>h.1 h1)]
  rw[e];refine IG ?_;intros;refine GO.ef (Ef.d7 (enc:=ay) (e:=x) rfl rfl rfl rfl rfl aJ (dH _) ab ab) ag ?_;rintro _ _⟨a2,a0,rfl,rfl⟩;refine IG ?_;intros;exact KX.en ⟨a2,a0,rfl,rfl⟩
 have a3:((xs.length:Int) - 1).toNat=xs.length - 1:=ab;have a4:=a6 _ (aL (ab:xs.length - 1<xs.length));rw[←a3] at a4;refine IG ?_;intros;refine GPW.cr (CP x xs[((xs.length:Int) - 1).toNat]! a4) ?_;by_cases hc:lm x xs[((xs.length:Int) - 1).toNat]!
 ·have a7:=lcont_iff.1 hc;rw[aZ hc];unfold LotW at a4 hx;refine IG ?_;intros;refine GPW.efu (Ef.l7 (e:=((xs[((xs.length:Int) - 1).toNat]!.1,xs[((xs.length:Int) - 1).toNat]!.2.1,xs[((xs.length:Int) - 1).toNat]!.2.2+x.2.2):Lot)) rfl rfl aJ rfl ab ag) ?_;rintro _ _ rfl
  have e:ba xs x=xs.set ((xs.length:Int) - 1).toNat (xs[((xs.length:Int) - 1).toNat]!.1,xs[((xs.length:Int) - 1).toNat]!.2.1,xs[((xs.length:Int) - 1).toNat]!.2.2+x.2.2):=by
   unfold ba;rw[a3] at hc ⊢;rw[if_neg h0,if_pos ⟨h1,hc⟩]
  rw[e];refine IG ?_;intros;exact KX.d7 av ah ⟨ad,cap,by rw[bJ];rfl,rfl⟩
 ·rw[aM hc]
  have e:ba xs x=xs++[x]:=by
   unfold ba;rw[a3] at hc;rw[if_neg h0,if_neg (fun h=>hc h.2)]
  rw[e];refine IG ?_;intros;refine GO.ef (Ef.d7 (enc:=ay) (e:=x) rfl rfl rfl rfl rfl aJ (dH _) ab ab) ag ?_;rintro _ _⟨a2,a0,rfl,rfl⟩;refine IG ?_;intros;exact KX.en ⟨a2,a0,rfl,rfl⟩
def pc1(x:Lot)(c:Int):Lot:=(x.1,x.2.1,c)
def pc2(x:Lot)(c:Int):Lot:=(x.1,x.2.1+c,x.2.2 - c)
def pcF(l:LL1)(cs:Nat→Int)(k:Nat):Lot:=pc1 l[k]! (cs k)
def pcR(l:LL1)(cs:Nat→Int)(k:Nat):Lot:=pc2 l[k]! (cs k)
def pcV(l:LL1)(cs:Nat→Int)(k:Nat):LV:=if k % 2=0 then[aN (ay (pcF l cs (k / 2))),.bool true] else[aN (ay (pcR l cs (k / 2))),.bool false]
def pcVs(l:LL1)(cs:Nat→Int):List (LV):=(List.range (2*l.length)).map (pcV l cs)
def ox(l:LL1)(cs:Nat→Int):(pcVs l cs).length=2*l.length:=by simp[pcVs]
def wQ{l:LL1}{cs:Nat→Int}{k:Nat}(h:k<(pcVs l cs).length):(pcVs l cs)[k]=pcV l cs k:=by simp[pcVs]
def ti(g:FuncId)(cap:LV)(n:Nat)(cs:Nat→Int)(C:Nat→HP):Prop:=∀k,k<n→∀L:LH,Tri ai g (([]++[Value.int .i64 (k:Int)]++cap:LV)).toArray (C k::L) (rtQ (ac (cs k)) (C (k+1)::L))
abbrev ft:Nat:=72
abbrev tCnt:Nat:=68
def Ae(bx bf g:Nat)(cap:LV)(ad:OA)(c:Nat)(l:LL1)(cs:Nat→Int)(C:Nat→HP)(hm:l.length≤1000000)(hw:∀x∈l,LotW x)(hc:∀k,k<l.length→0≤cs k∧cs k≤l[k]!.2.2)(hC:ti g cap l.length cs C) :
  DD ai 336 [aq bx,aq bf] (pcVs l cs) [obj bx ft [ae ad l.length c],obj bf tCnt [.func (.func g) #[] cap.toArray],C 0,isl ay 3 ad l] []:=by
 intro i J Jx hy;rw[ox]
 have a1 : ∀k (hk:k<2*l.length),YTri ai i (pcV l cs k) [J k] (fun v L'=>(v=.bool true∧L' = [J (k+1)])∨(v=.bool false∧L' = [Jx k])):=by
  intro k hk;have h:=hy k (by rw[ox];exact hk);rw[wQ] at h;exact h
 clear hy;refine Tri.bd (args:=[.func (.yield i) #[] #[],aq bx,aq bf]) ?_;refine IF ?_;intros;refine G.loop (α:=Nat) (fun k=>k≤l.length) (fun k=>[(0,.func (.yield i) #[] #[]),(1,aq bx),(2,aq bf),(7,ae ad l.length c),(8,ac l.length),(9,ac (k:Int))]) (fun k=>[J (2*k),obj bx ft [ae ad l.length c],obj bf tCnt [.func (.func g) #[] cap.toArray],C k,isl ay 3 ad l]) (fun k=>l.length - k) 0 (az _) an (Ent.refl _) ?_;intro k hk;by_cases a0:k<l.length
 case neg =>
  have a5:k=l.length:=ab;refine IF ?_;intros;refine KX.e7 av (Ent.d7 (Ent.nil _)) (.inl ?_);rw[a5]
 have a4:(k:Int).toNat=k:=ab;have a6:=hw _ (aL a0);have a7:=hc k a0;have a2:=a1 (2*k) ab;have a3:=a1 (2*k+1) ab;rw[show pcV l cs (2*k)=[aN (ay (pcF l cs k)),.bool true] by unfold pcV;rw[if_pos ab,show 2*k / 2=k by omega]] at a2;rw[show pcV l cs (2*k+1)=[aN (ay (pcR l cs k)),.bool false] by unfold pcV;rw[if_neg ab,show(2*k+1) / 2=k by omega]] at a3;unfold LotW at a6;refine IF ?_;intros;rw[a4];refine GO.ent (Ent.at (A:=C k) (Ent.refl _)) ?_;refine GO.ef (Ef.d8 rfl rfl (hC k a0 _)) ag ?_;rintro _ _⟨rfl,rfl⟩;refine IF ?_;intros;refine GO.ent (Ent.at (A:=J (2*k)) (Ent.refl _)) ?_;((with_reducible apply GO.d7);refine GO.efR (EfR.yield (a2) rfl rfl cT) ag ?_);rintro _ _⟨_,(⟨rfl,rfl⟩|⟨rfl,rfl⟩),hL⟩
 ·simp only[ak,aj] at hL;subst hL;refine IF ?_;intros;((with_reducible apply GO.d7);refine GO.efR (EfR.yield (a3) rfl rfl cT) ag ?_);rintro _ _⟨_,(⟨rfl,rfl⟩|⟨rfl,rfl⟩),hL⟩
  ·simp only[ak,aj] at hL;subst hL;refine IF ?_;intros;refine⟨k+1,ab,ab,?_,?_⟩
   ·rw[show(((k+1:Nat)):Int)=(k:Int)+1 by omega];exact an
   ·rw[show 2*(k+1)=2*k+1+1 by omega];exact ah
  ·simp only[ak,aj] at hL;subst hL;refine IF ?_;intros;exact KX.d7 av (Ent.d7 (Ent.nil _)) (.inr ⟨2*k+1,rfl⟩)
 ·simp only[ak,aj] at hL;subst hL;refine IF ?_;intros;exact KX.d7 av (Ent.d7 (Ent.nil _)) (.inr ⟨2*k,rfl⟩)
def stkA(b:Nat)(xs:LL1)(x:OA×Nat):LH:=[obj b ft [ae x.1 xs.length x.2],osl ay 3 tLot x.1 x.2 xs]
def stkO(b:Nat)(xs:LL1):HP:=hex fun x=>cY (stkA b xs x)
def divF(l:LL1)(cs:Nat→Int)(m:Nat):LL1:=((List.range m).map (pcF l cs)).foldl ba []
def divR(l:LL1)(cs:Nat→Int)(m:Nat):LL1:=((List.range m).map (pcR l cs)).foldl ba []
def uM(l:LL1)(cs:Nat→Int)(m:Nat):divF l cs (m+1)=ba (divF l cs m) (pcF l cs m):=by simp[divF,gh]
def uL(l:LL1)(cs:Nat→Int)(m:Nat):divR l cs (m+1)=ba (divR l cs m) (pcR l cs m):=by simp[divR,gh]
def ld(l:LL1)(cs:Nat→Int)(m:Nat):(divF l cs m).length≤m∧(divR l cs m).length≤m:=by
 have h1:=iR ((List.range m).map (pcF l cs)) [];have h2:=iR ((List.range m).map (pcR l cs)) [];simp at h1 h2;exact⟨h1,h2⟩
def pc_w{l:LL1}{cs:Nat→Int}{k:Nat}(hk:k<l.length)(hw:∀x∈l,LotW x)(hc:0≤cs k∧cs k≤l[k]!.2.2):LotW (pcF l cs k)∧LotW (pcR l cs k):=by
 have:=hw _ (aL hk)
 unfold LotW at *;simp only[pcF,pcR,pc1,pc2];omega
def Di{l:LL1}{cs:Nat→Int}(hw:∀x∈l,LotW x)(hc:∀k,k<l.length→0≤cs k∧cs k≤l[k]!.2.2)(m:Nat)(hm:m≤l.length):(∀x∈divF l cs m,LotW x)∧∀x∈divR l cs m,LotW x:=by
 constructor
 ·refine kB bH ?_;intro x hx;obtain⟨k,hk,rfl⟩:=List.mem_map.1 hx;have a0:=List.mem_range.1 hk;exact(pc_w ab hw (hc k ab)).1
 ·refine kB bH ?_;intro x hx;obtain⟨k,hk,rfl⟩:=List.mem_map.1 hx;have a0:=List.mem_range.1 hk;exact(pc_w ab hw (hc k ab)).2
abbrev BX:List Stp:=[.ev 0,.ev 1,.ef 2,.ef 3]
def gN{φ ψ:Prop}(k:ψ)(h:Hid ψ→φ:=by intro k;first|refine GO.ci (f:=325) (Hid.out k)|refine GPW.ci (f:=325) (Hid.out k)|refine GO.cf (f:=325) rfl (Hid.out k)|refine GPW.cf (f:=325) rfl (Hid.out k)|refine KX.inA (Hid.out k)):φ:=h ⟨k⟩
def gM{φ ψ:Prop}(k:ψ)(h:Hid ψ→φ:=by intro k;(with_reducible apply G.d7);first|refine G.dr 22 7 BX (Hid.out k)):φ:=h ⟨k⟩
def aq6{φ ψ:Prop}(k:ψ)(h:Hid ψ→φ:=by intro k;(repeat (first|refine aa ?_|intro zzz|refine gM ?_|refine gN ?_));(repeat revert zzz);exact Hid.out k):φ:=h ⟨k⟩
def nJ(g:Nat)(cap:LV)(ad:OA)(c:Nat)(l:LL1)(cs:Nat→Int)(C:Nat→HP)(hm:l.length≤1000000)(hw:∀x∈l,LotW x)(hc:∀k,k<l.length→0≤cs k∧cs k≤l[k]!.2.2)(hC:ti g cap l.length cs C) :
  Tri ai 302 #[ae ad l.length c,.func (.func g) #[] cap.toArray] [C 0,isl ay 3 ad l] (fun v L'=>∃a0 c1 a1 c2,v=.tuple #[ae a0 (divF l cs l.length).length c1,ae a1 (divR l cs l.length).length c2]∧L' = [osl ay 3 tLot a0 c1 (divF l cs l.length),osl ay 3 tLot a1 c2 (divR l cs l.length)]):=by
 refine Tri.bd ?_;refine aq6 ?_;intros;rename_i b4 b5 bx bf;refine G.g9 (Ae bx bf g cap ad c l cs C hm hw hc hC) rfl en336.1 ag ?_ (fun k=>[stkO b4 (divF l cs ((k+1) / 2)),stkO b5 (divR l cs (k / 2))]) ?_ ?_ ?_
 ·intro vs b0;obtain⟨k,_,rfl⟩:=List.mem_map.1 b0;unfold pcV;split<;>rfl
 ·simp only[ak,aj];rw[show divF l cs ((0+1) / 2)=[] from rfl,show divR l cs (0 / 2)=[] from rfl];refine Ent.trans ?_ (Ent.l7 (none,0) (f:=stkA b4 []) (Ent.refl _));refine Ent.trans ?_ (Ent.append (Ent.refl (stkA b4 [] (none,0))) (Ent.l7 (none,0) (f:=stkA b5 []) (Ent.refl _)));simp only[stkA,cU,ak,aj];refine Ent.trans (Ent.d8 ay 3 tLot) (Ent.trans (Ent.d8 ay 3 tLot) ?_);exact ah
 ·intro k hk;have b1:k<2*l.length:=by rw[ox] at hk;exact hk
  rw[wQ];obtain⟨m,a5⟩:∃m,m=k / 2:=⟨_,rfl⟩;have a6:m<l.length:=ab;obtain⟨a7,a8⟩:=pc_w a6 hw (hc m a6);have a3:=ld l cs m;have a9:=ld l cs (m+1);have a2:=Di hw hc m ab;unfold pcV;by_cases a4:k % 2=0
  ·rw[if_pos a4,←a5,show(k+1) / 2=m by omega,show(k+1+1) / 2=m+1 by omega,uM];generalize divF l cs m=T at a3 a2;generalize divR l cs m=R;generalize pcF l cs m=x at a7;show G _ _ _ ((12,.bool true)::(11,aN (ay x))::_) _ _;refine G.e7 (f:=stkA b4 T) ?_;rintro⟨a0,c1⟩;simp only[stkA,ak,aj];refine aq6 ?_;intros;refine GO.ent (Ent.at (A:=osl ay 3 tLot a0 c1 T) (Ent.refl _)) ?_;refine GO.ca (pM a0 c1 T x ab a2.1 a7) ?_;rintro _ _⟨a1,c2,rfl,rfl⟩;refine aq6 ?_;intros;refine KX.round ?_;refine Ent.trans ?_ (Ent.l7 (a1,c2) (f:=stkA b4 (ba T x)) (Ent.refl _));simp only[stkA,ak,aj];exact ah
  ·rw[if_neg a4,←a5,show(k+1) / 2=m+1 by omega,show(k+1+1) / 2=m+1 by omega,uL];generalize divF l cs (m+1)=T;generalize divR l cs m=R at a3 a2;generalize pcR l cs m=x at a8;show G _ _ _ ((12,.bool false)::(11,aN (ay x))::_) _ _;refine G.ent Ent.swap ?_;refine G.e7 (f:=stkA b5 R) ?_;rintro⟨a0,c1⟩;simp only[stkA,ak,aj];refine aq6 ?_;intros;refine GO.ent (Ent.at (A:=osl ay 3 tLot a0 c1 R) (Ent.refl _)) ?_;refine GO.ca (pM a0 c1 R x ab a2.2 a8) ?_;rintro _ _⟨a1,c2,rfl,rfl⟩;refine aq6 ?_;intros;refine KX.round ?_;refine Ent.trans ?_ (Ent.swap (A:=stkO b5 (ba R x)));refine Ent.trans ?_ (Ent.l7 (a1,c2) (f:=stkA b5 (ba R x)) (Ent.refl _));simp only[stkA,ak,aj];exact ah
 ·rw[ox,show(2*l.length+1) / 2=l.length by omega,show 2*l.length / 2=l.length by omega];generalize divF l cs l.length=T;generalize divR l cs l.length=R;simp only[aO];refine KX.d8 (KX.l0 ?_);refine G.e7 (f:=stkA b4 T) ?_;rintro⟨a0,c1⟩;refine G.ent (L':=stkO b5 R::stkA b4 T (a0,c1)) (Ent.perm (by simp only[stkA,ak,aj];exact(List.Perm.cons _ (List.Perm.swap _ _ _)).trans (List.Perm.swap _ _ _))) ?_;refine G.e7 (f:=stkA b5 R) ?_;rintro⟨a1,c2⟩;simp only[stkA,ak,aj];refine aq6 ?_;intros;refine KX.d7 (vs:=[ae a0 T.length c1,ae a1 R.length c2]) (ResOk.d7 rfl (ResOk.d7 rfl ResOk.nil)) ?_ ⟨a0,c1,a1,c2,rfl,rfl⟩;exact ah
def fuR(l:LL1)(m:Int):Nat→Int
 | 0=>m
 | k+1=>fuR l m k - min (fuR l m k) l[k]!.2.2
def fuC(l:LL1)(m:Int)(k:Nat):Int:=min (fuR l m k) l[k]!.2.2
def pR{l:LL1}{m:Int}(h0:0≤m)(hw:∀x∈l,LotW x):∀k,k≤l.length→0≤fuR l m k∧fuR l m k≤m
 | 0,_=>⟨h0,bG _⟩
 | k+1,hk=>by
  have ih:=pR h0 hw k ab;have:=hw _ (aL (ab:k<l.length))
  unfold LotW at this;simp only[fuR];omega
def pS{l:LL1}{m:Int}(h0:0≤m)(hw:∀x∈l,LotW x)(k:Nat)(hk:k<l.length):0≤fuC l m k∧fuC l m k≤l[k]!.2.2:=by
 have h1:=pR h0 hw k ab;have:=hw _ (aL hk)
 unfold LotW at this;unfold fuC;omega
abbrev tInt:Nat:=3
def fuA(bn bl:Nat)(ad:OA)(c:Nat)(l:LL1)(m:Int)(k:Nat):LH:=[obj bn tInt [ac (fuR l m k)],obj bl ft [ae ad l.length c],isl ay 3 ad l]
abbrev BW:=ar5 []
def uH(bn bl:Nat)(ad:OA)(c:Nat)(l:LL1)(m:Int)(hm:l.length≤1000000)(h0:0≤m)(h1:m≤1099511627776)(hw:∀x∈l,LotW x) :
  ti 320 [aq bn,aq bl] l.length (fuC l m) (fun k=>cY (fuA bn bl ad c l m k)):=by
 intro k hk L;have a1:(k:Int).toNat=k:=ab;have hb:=pR h0 hw k ab;have a0:=pS h0 hw k hk;have a2:=hw _ (aL hk);unfold LotW at a2;unfold fuC at a0;rw[←a1] at a2 a0;rw[a1] at a0;refine Tri.bd (args:=[ac (k:Int),aq bn,aq bl]) ?_;refine G.ent Ent.openS ?_;simp only[fuA,ak,aj];repeat first|refine aa ?_|intro _|((with_reducible apply G.d7);first|refine G.dr 17 1 BW ?_)
 rw[a1];exact KX.d7 av (Ent.l9 (A:=[_,_,_]) (L:=L)) ⟨rfl,rfl⟩
def lO{L:LH}(ad:OA)(n c:Nat)(xs:LL1)[Rds L ad Lot ay 3 xs](hn:n=xs.length)(hb:xs.length≤4096)(hx:∀l∈xs,LotOk l) :
  Tri ai 262 #[ae ad n c] L (rtQ (ac (lsum xs)) L):=by
 refine Tri.bd ?_;refine IF ?_;intros;refine GO.ca (hD ad n c xs hn hb hx) ?_;rintro _ L ⟨rfl,rfl⟩;refine IF ?_;intros;refine GO.ca (qK ad n c xs hn hb hx) ?_;rintro _ L ⟨rfl,rfl⟩;refine IF ?_;intros;exact KX.en ⟨rfl,rfl⟩
def iw{φ ψ:Prop}(k:ψ)(h:Hid ψ→φ:=by intro k;first|refine GO.ci (f:=299) (Hid.out k)|refine GPW.ci (f:=299) (Hid.out k)|refine GO.cf (f:=299) rfl (Hid.out k)|refine GPW.cf (f:=299) rfl (Hid.out k)|refine KX.inA (Hid.out k)):φ:=h ⟨k⟩
def aq7{φ ψ:Prop}(k:ψ)(h:Hid ψ→φ:=by intro k;(repeat (first|refine aa ?_|intro zzz|refine iw ?_));(repeat revert zzz);exact Hid.out k):φ:=h ⟨k⟩
def Bw{L:LH}(ad:OA)(c:Nat)(xs:LL1)(n:Int)(mixed:Bool)(a3:mixed=false)(hb:xs.length≤4096)(hx:∀l∈xs,LotOk l)(a2:0≤n)(a4:n≤1099511627776) :
  Tri ai 284 #[ae ad xs.length c,ac n,.bool mixed] (isl ay 3 ad xs::L) (fun v L' =>
   (lsum xs<n∧v=.tuple #[ae none 0 0,ae none 0 0,ac 10]∧L' = isl ay 3 ad xs::L) ∨
   (n≤lsum xs∧∃a0 c1 a1 c2,v=.tuple #[ae a0 (divF xs (fuC xs n) xs.length).length c1,ae a1 (divR xs (fuC xs n) xs.length).length c2,ac 0]∧L' = osl ay 3 tLot a0 c1 (divF xs (fuC xs n) xs.length)::osl ay 3 tLot a1 c2 (divR xs (fuC xs n) xs.length)::isl ay 3 ad xs::L)):=by
 subst a3;have hw:∀x∈xs,LotW x:=fun x h=>(hx x h).w;refine Tri.bd ?_;refine aq7 ?_;intros;refine GO.cr (hD ad xs.length c xs rfl hb hx) ?_;refine aq7 ?_;intros;refine GO.cr (lO ad xs.length c xs rfl hb hx) ?_;by_cases hs:lsum xs<n
 ·refine aq7 ?_;intros;exact KX.d7 av (Ent.refl _) (.inl ⟨hs,rfl,rfl⟩)
 refine aq7 ?_;intros;rename_i bl bn;refine GO.ent (L':=cY (fuA bn bl ad c xs n 0)::isl ay 3 ad xs::isl ay 3 ad xs::L) ?_ ?_
 ·refine Ent.trans ?_ Ent.l9;simp only[fuA,fuR,ak,aj];refine(Ent.at (A:=isl ay 3 ad xs) (Ent.dup (lF _ _ _ _))).trans ?_;refine(Ent.dup (lF _ _ _ _)).trans ?_;exact ah
 (first|refine GO.ef (Ef.call (nJ _ _ ad c xs (fuC xs n) (fun k=>cY (fuA bn bl ad c xs n k)) ab hw (pS a2 hw) (uH bn bl ad c xs n ab a2 a4 hw)) rfl cT) ag ?_);rintro _ _⟨_,⟨a0,c1,a1,c2,rfl,rfl⟩,hL⟩;simp only[ak,aj] at hL;subst hL;refine aq7 ?_;intros;exact KX.d7 av (Ent.refl _) (.inr ⟨ab,a0,c1,a1,c2,rfl,rfl⟩)
structure MvM where
 frm:Int
 to:Int
 item:Int
 n:Int
 parts:LL1
 deriving Inhabited,DecidableEq
structure MvV where
 m:MvM
 pad:OA
 pcap:Nat
 deriving Inhabited
def aT(m:MvV):LV:=[ac m.m.frm,ac m.m.to,ac m.m.item,ac m.m.n,ae m.pad m.m.parts.length m.pcap]
def km(t:MvV):∀u∈aT t,u.oneCell' = true:=by simp[aT,Value.oneCell']
instance:EncC aT:=⟨km⟩
abbrev mvP(m:MvV):HP:=isl ay 3 m.pad m.m.parts
def iQ(m:MvV):PersM (mvP m):=bI _ _ _ _
abbrev tMv:Nat:=74
def mv0:MvV:=⟨⟨0,0,0,0,[]⟩,none,0⟩
def qb{L:LH}(m:MvV)(hl:m.m.parts.length≤1000000) :
  Tri ai 126 #[aN (aT m)] (mvP m::L) (fun v L'=>∃m',v=aN (aT m')∧m'.m=m.m∧L' = mvP m'::mvP m::L):=by
 obtain⟨⟨frm,to,item,n,parts⟩,pad,pcap⟩:=m;dsimp only at hl;refine Tri.bd (args:=[aN (aT ⟨⟨frm,to,item,n,parts⟩,pad,pcap⟩)]) ?_;refine IF ?_;intros;refine GO.ca (gV pad parts.length pcap parts rfl ab) ?_;rintro _ _⟨a1,a0,rfl,rfl⟩;refine IF ?_;intros;refine KX.d7 (by exact ResOk.cell rfl aJ (ResOk.nil)) ?_ ⟨⟨⟨frm,to,item,n,parts⟩,a1,a0⟩,rfl,rfl,rfl⟩;refine(Ent.frz a1).trans ?_;exact ah
def dp{α:Type}[Inhabited α]{l:List α}{i:Nat}{x:α}(h:i<l.length):(l.set i x).take (i+1)=l.take i++[x]:=by
 rw[aC (by simpa using h),List.take_set_of_le (aI _)];simp
def xO{L:LH}(ad:OA)(c:Nat)(ms:List MvV)(hl:ms.length≤64)(hp:∀m∈ms,m.m.parts.length≤1000000) :
  Tri ai 125 #[ae ad ms.length c,.func (.func 126) #[] #[]] (isl aT 5 ad ms::allP mvP ms::L) (fun v L'=>∃a3 c' a1,v=ae a3 a1.length c'∧a1.map (·.m)=ms.map (·.m)∧L' = isl aT 5 a3 a1::allP mvP a1::isl aT 5 ad ms::allP mvP ms::L):=by
 refine Tri.bd ?_;by_cases h0:ms.length=0
 ·have e:ms=[]:=aW h0;subst e;refine IF ?_;intros;exact KX.d7 av ((Ent.e7 mvP).trans (Ent.f8 aT 5 none)) ⟨none,0,[],rfl,rfl,rfl⟩
 refine IF ?_;intros;refine GO.ef (Ef.f8 aT mv0 rfl rfl rfl ab ab ab ab) ag ?_;rintro _ _⟨bs,rfl,rfl⟩;rw[show(ms.length:Int).toNat=ms.length by omega];refine IF ?_;intros
 refine G.loop (α:=Nat×List MvV) (fun z=>z.1≤ms.length∧z.2.length=ms.length∧(z.2.take z.1).map (·.m)=(ms.take z.1).map (·.m)) (fun z=>[(1,.func (.func 126) #[] #[]),(5,ae (some ⟨bs,0,none⟩) ms.length ms.length),(14,ae ad ms.length c),(15,ac (ms.length:Int)),(16,ac (z.1:Int))])
  (fun z=>osl aT 5 tMv (some ⟨bs,0,none⟩) ms.length z.2::allP mvP (z.2.take z.1)::isl aT 5 ad ms::allP mvP ms::L) (fun z=>ms.length - z.1) (0,List.replicate ms.length mv0) ⟨az _,by simp,by simp⟩ an ?_ ?_
 ·dsimp only;rw[bC];refine(Ent.e7 mvP).trans ?_;exact ah
 rintro⟨i,zs⟩ ⟨hi,a6,a0⟩;dsimp only at hi a6 a0 ⊢;by_cases a2:i<ms.length
 case neg =>
  have a7:i=ms.length:=ab;subst a7;rw[aB ab,aB ab] at a0;rw[aB (ab:zs.length≤ms.length)];refine IF ?_;intros;refine KX.d7 av (Ent.freezeSl) ⟨some ⟨bs,0,none⟩,ms.length,zs,by rw[a6];rfl,a0,rfl⟩
 have a4:(i:Int).toNat=i:=ab;have a5:ms[i]!∈ms:=aL a2;refine IF ?_;intros;rw[a4];refine GO.ent (Ent.at (A:=allP mvP ms) (Ent.d9 (x:=ms[i]!) a5)) ?_;refine GO.ef (Ef.d8 rfl rfl (qb ms[i]! (hp _ a5))) ag ?_;rintro _ _⟨m',rfl,a8,rfl⟩;refine IF ?_;intros;refine GO.efu (Ef.e7 (e:=m') rfl rfl aJ aJ (km _) ab) ?_;rintro _ _ rfl;rw[a4];refine IF ?_;intros;refine⟨(i+1,zs.set i m'),⟨by dsimp only;omega,by dsimp only;simp;omega,?_⟩,by dsimp only;omega,?_,?_⟩
 ·dsimp only;rw[dp ab,aC a2,aR,aR,a0,←getElem!_of a2];simp[a8]
 ·dsimp only;rw[aU i];exact an
 ·dsimp only;rw[dp ab];refine Ent.d7 ?_;refine Ent.trans (B:=allP mvP (zs.take i)::mvP m'::isl aT 5 ad ms::allP mvP ms::L) ah ?_;exact(Ent.d7 (Ent.l0 iQ)).trans (Ent.j0 iQ)
structure StM where
 id:Int
 kind:Int
 actor:Int
 tick:Int
 rule:Int
 times:Int
 moves:List MvM
 deriving Inhabited
structure StV where
 id:Int
 kind:Int
 actor:Int
 tick:Int
 rule:Int
 times:Int
 moves:List MvV
 mad:OA
 mcap:Nat
 deriving Inhabited
def StV.m(s:StV):StM:=⟨s.id,s.kind,s.actor,s.tick,s.rule,s.times,s.moves.map (·.m)⟩
def aX(s:StV):LV:=[ac s.id,ac s.kind,ac s.actor,ac s.tick,ac s.rule,ac s.times,ae s.mad s.moves.length s.mcap]
def lu(t:StV):∀u∈aX t,u.oneCell' = true:=by simp[aX,Value.oneCell']
instance:EncC aX:=⟨lu⟩
abbrev stM(s:StV):HP:=isl aT 5 s.mad s.moves
abbrev stP(s:StV):HP:=allP mvP s.moves
def sj(s:StV):PersM (stM s):=bI _ _ _ _
def pZ{L:LH}(s:StV)(hl:s.moves.length≤64)(hp:∀m∈s.moves,m.m.parts.length≤1000000) :
  Tri ai 68 #[aN (aX s)] (stM s::stP s::L) (fun v L'=>∃s',v=aN (aX s')∧s'.m=s.m∧L' = stM s'::stP s'::stM s::stP s::L):=by
 obtain⟨i0,i1,i2,i3,i4,i5,ms,mad,mcap⟩:=s;dsimp only at hl hp;refine Tri.bd (args:=[aN (aX ⟨i0,i1,i2,i3,i4,i5,ms,mad,mcap⟩)]) ?_;refine IF ?_;intros;refine GO.ent (Ent.at (A:=isl aT 5 mad ms) (Ent.d7 (Ent.at (A:=allP mvP ms) (Ent.refl _)))) ?_;refine GO.ca (xO mad mcap ms hl hp) ?_;rintro _ _⟨a0,c',a2,rfl,a1,rfl⟩;refine IF ?_;intros;refine KX.d7 (by exact ResOk.cell rfl aJ (ResOk.nil)) ?_ ⟨⟨i0,i1,i2,i3,i4,i5,a2,a0,c'⟩,rfl,by simp only[StV.m,a1],rfl⟩;exact ah
