/- Lemmas. -/
import Derived.Test.YtommnllbflbdmaaGreatDoorAah
import Derived.Test.YtommnllbflbdmaaGreatDoorAT
import Derived.Sort.Grow
import Derived.Lib.SlicesCompact
set_option linter.all false
namespace Go.Proofs.YtommnllbflbdmaaGreatDoor
open Go.V
instance:TyIS ai 46 3:=TyIS.of krStd0 krStd0 krStd0 krStd0 krStd0
instance:TyIS ai 91 3:=TyIS.of krStd0 krStd0 krStd0 krStd0 krStd0
instance:TyIS ai 112 3:=TyIS.of krStd0 krStd0 krStd0 krStd0 krStd0
instance:TyIS ai 133 2:=TyIS.of krStd0 krStd0 krStd0 krStd0 krStd0
instance:TyArr ai 116 2 3 1:=⟨krStd0,krStd0⟩
instance:TyArr ai 359 128 5 1:=⟨krStd0,krStd0⟩
instance:TyG ai 101 116 72 (ah none 0 0):=⟨krStd0,krStd0⟩
instance:TyG ai 102 3 3 (ac 0):=⟨krStd0,krStd0⟩
instance:KeyT ai 3 kvI:=keyI
instance:TyG ai 103 3 72 (ah none 0 0):=⟨krStd0,krStd0⟩
instance:TyG ai 115 116 3 (ac 0):=⟨krStd0,krStd0⟩
instance:TyG ai 124 133 72 (ah none 0 0):=⟨krStd0,krStd0⟩
instance:KeyT ai 133 kvP:=keyP
instance:TyG ai 304 9 4 (.bool false):=⟨krStd0,krStd0⟩
instance:KeyT ai 9 kvS:=keyS
end Go.Proofs.YtommnllbflbdmaaGreatDoor
namespace Go.V
section
section
variable {P:Program}{N:Nat}{env:Env}{L:LH}{ty:TypeId}{v:Value}
def Ev.m8{t E:TypeId}{x y:Operand}{a b:Int}[ht:TyArr P t 2 E 1][hz:ZeroT P t [ac 0,ac 0]](hx:evE env x=some (ac a))(hy:evE env y=some (ac b)) :
  Ev P L env (.build t #[(0,x),(1,y)]) ty (.agg #[ac a,ac b]) :=
 Ev.mk (fun θ R ρ w ea s _ _ _ _=>by
  obtain⟨z0,h1,h2⟩:=hz.run w;have c1:(Value.int .i64 a).cells=#[ac a]:=rfl;have c2:(Value.int .i64 b).cells=#[ac b]:=rfl;simp[execOp,aP ea hx,aP ea hy,Instr.build,Sem.run_bind,h1,Result.andThen_ok,run_underlying ht.under,ht.sizeOf_run,h2,Instr.fill,c1,c2])
end
end
section
open Go.Sort
def vT{d:List Int}{a0:Array Value}{m:Nat}(hm:m≤d.length)(hc:d.length≤a0.size):(putCells (Value.int .i64) 0 d.toArray a0).toList.take (m*1)=(d.take m).flatMap (encZ .i64):=by
 rw[nA,Nat.mul_one];apply io;intro i;by_cases hi:i<m
 ·have h1:i<d.length:=ab;have h2:i<a0.size:=ab;rw[List.getElem?_take,if_pos hi];simp[putCells,h1,h2,hi]
 ·rw[List.getElem?_take,if_neg hi];simp;omega
def Sat.putRow{θ:Th}{g E:Nat}{a1:Array Value}{R:LH}{w:World}{d:Array Int}{n:Nat}{os:Array Obj}(s:Sat θ (own g (.cells a1 E (0,0))::R) w) :
  Sat θ (own g (.cells (putCells (Value.int .i64) 0 d a1) E (0,0))::R) (grow (Sort.putRow (Value.int .i64) (Sort.ahead w n) g 0 d) os):=by
 have hb:=s.own_heap;have a2:g<w.heap.size:=(Array.getElem?_eq_some_iff.1 hb).1;refine s.update ⟨s.1.tape,s.1.os,s.1.output,cK s.1.drawn (dZ _ _)⟩ ?_ ?_
 ·show(w.heap.modify g (onCells (putCells (Value.int .i64) 0 d))++os)[g]? = _;rw[Array.getElem?_append_left (by simpa using a2),Array.getElem?_modify,if_pos rfl,hb];rfl
 ·intro k x hk hx;have a0:k<w.heap.size:=(Array.getElem?_eq_some_iff.1 hx).1;show(w.heap.modify g (onCells (putCells (Value.int .i64) 0 d))++os)[k]? = _;rw[Array.getElem?_append_left (by simpa using a0),Array.getElem?_modify,if_neg (fun e=>hk e.symm),hx]
def FG{g E:Nat}{a0:Array Value}{xs:List Int}{w:World}(hb:w.heap[g]? = some (.cells a0 E (0,0)))(ht:a0.toList.take (xs.length*1)=xs.flatMap (encZ .i64)):Holds (Value.int .i64) w g 0 xs.toArray:=by
 intro j hj;have a1 : j<xs.length:=by simpa using hj
 refine⟨?_,by simp[World.frozen?,hb]⟩;rw[dq,fk hb];have h:(a0.toList.take (xs.length*1))[j]? = (xs.flatMap (encZ .i64))[j]?:=by rw[ht]
 rw[nA,List.getElem?_take,if_pos ab] at h;simp[a1] at h;simp[a1,h]
def Tri.f7{P:Program}{f:FuncId}{E cap:Nat}{ad:OA}{xs ys:List Int}{L:LH}(he:Enters P f)(a5:ys.length=xs.length)(a6:xs.length<4611686018427387904)
  (h0:xs.length=0→∀w,Calls P f #[.slice ad 0 cap] w fun e w'=>e=.returned (.tuple #[])∧w' = w)
  (h1:∀a0 w,Holds (Value.int .i64) w a0 0 xs.toArray→a0<w.heap.size→Calls P f #[.slice (some ⟨a0,0,none⟩) xs.length cap] w fun e w'=>e=.returned (.tuple #[])∧∃n os,w' = grow (Sort.putRow (Value.int .i64) (Sort.ahead w n) a0 0 ys.toArray) os) :
  Tri P f #[.slice ad xs.length cap] (osl (encZ .i64) 1 E ad cap xs::L) (fun v L'=>v=.tuple #[]∧L' = osl (encZ .i64) 1 E ad cap ys::L):=by
 refine⟨he,fun θ R w s=>?_⟩;by_cases hx:xs.length=0
 ·have e1:xs=[]:=aX hx;have e2:ys=[]:=aX ab;subst e1 e2;refine(h0 rfl w).mono ?_;rintro e w' ⟨rfl,rfl⟩;exact⟨_,_,rfl,⟨rfl,rfl⟩,s⟩
 obtain⟨a1,a2,a3,a4⟩:=Sat.osl_parts (L:=L++R) s;rcases a4 with⟨rfl,rfl⟩|⟨g,a7,rfl,b1,b2,b3⟩
 ·omega
 have hb:=b3.own_heap;refine(h1 g w (FG hb b2) (Array.getElem?_eq_some_iff.1 hb).1).mono ?_;rintro e w' ⟨rfl,n,os,rfl⟩;refine⟨_,_,rfl,⟨rfl,rfl⟩,?_⟩;refine Sat.osl_mk (L:=L++R) (Sat.putRow b3) (fun _ _=>rfl) ab a3 ?_ ?_
 ·simp[putCells,b1]
 ·rw[vT (aB _) (by rw[b1];omega),bu]
end
section
section fv
variable {P:Program}{N:Nat}{env:Env}{L:LH}{K:Post}{ty:TypeId}
def Ez(P:Program)(gf:FuncId)(cap:LV)(a0:List (LV))(Lg Lx:LH):Prop :=
 ∀(l:Nat) (J Jx:Nat→HP),(∀k (hk:k<a0.length),YTri P l a0[k] [J k] (fun v L'=>(v=.bool true∧L' = [J (k+1)])∨(v=.bool false∧L' = [Jx k]))) →
  Tri P gf (.func (.yield l) #[] #[]::cap).toArray (J 0::Lg) (fun _ L'=>L' = J a0.length::Lx∨∃k,L' = Jx k::Lx)
def G.f8{g:Operand}{ps:Array Tmp}{assign body:Code}{gf:FuncId}{cap:LV}{a2:List (LV)}{Lg Lx:LH}(it:Ez P gf cap a2 Lg Lx)(hg:evE env g=some (.func (.func gf) #[] cap.toArray))
  (b5:Enters P gf) (b2:∀p∈ps,p<N) (a7:∀vs∈a2,vs.length=ps.size) (I:Nat→LH) (hl:Ent L (I 0++Lg))
  (a5:∀k (hk:k<a2.length),G P N assign (penv env (ps.toList.zip a2[k])) (I k) (Post.seq (fun a8 L'=>G P N body a8 L' (ua K env Lx (I (k+1)))) (fun _ _ _=>False)))
  (a6:K .normal env (I a2.length++Lx)):G P N (.rangeFunc g ps assign body) env L K:=by
 intro r θ Y a w hr i;obtain⟨M,ea,hm,s⟩:=i;have s0:Sat θ (I 0++Lg++(mkH M++Y)) w:=hl θ _ w s;-- what is the same in both cases
 have a4:∀(fn:FuncId) (l D:Nat) (a0:List Nat) (w₁:World),(Instr.enterLoop fn a.tmps ps assign body r).run P w=.ok (l,mkD a0) w₁ →
   Sat θ (own l (.loop { state:=.ready,pending:=none,fn,tmps:=a.tmps,params:=ps,assign,body,defers:=D })::(mkH a0++(I 0++Lg++(mkH M++Y)))) w₁ →
   ∃(l:Nat) (a0:List Deferred) (w₁:World) (d:Deferred) (w₁' : World) (f:FuncId) (args:Array Value) (w₂:World),
   (Instr.enterLoop fn a.tmps ps assign body (FW r).round).run P w=.ok (l,a0) w₁ ∧
   (resolve a.eval (rangeCall g l) 0).run P w₁=.ok d w₁' ∧
   (∀f',Target.leads P w₁' d.target d.args=some f'→(FW r).fn f') ∧
   (invoke d.target d.args).run P w₁' = .ok (.enter f args) w₂ ∧
   ((FW r).depth.isSome=true→1≤0) ∧
   CallsIn (FW r) (0 - 1) P f args w₂ (rangePost (FW r) 0 P l (QK θ Y N K) { a with defers:=a0++a.defers }):=by
  intro fn l D a0 w₁ he s1;obtain⟨a1,a3⟩:∃a1:Loop,a1={ state:=.ready,pending:=none,fn,tmps:=a.tmps,params:=ps,assign,body,defers:=D }:=⟨_,rfl⟩;rw[←a3] at s1;have b0:a1.state=.ready:=by rw[a3]
  have a9:a1.pending=none:=by rw[a3]
  have hy:∀k (hk:k<a2.length),YTri P l a2[k] [cR (own l (.loop a1)::I k)] (fun v L'=>(v=.bool true∧L' = [cR (own l (.loop a1)::I (k+1))])∨(v=.bool false∧L' = [hex fun x:Code×LH=>cR (dz (jG K env Lx x.1 x.2)::own l (.loop { a1 with state:=.done,pending:=some x.1 })::x.2)])):=by
   intro k hk;refine tv b0 a9 (by rw[a3];exact a7 _ (ed _)) (by rw[a3];exact b2) (env:=env) ?_ ?_
   ·rw[a3];exact⟨ea.size,ea.at_⟩
   ·rw[a3];exact a5 k hk
  have ht:=it l (fun k=>cR (own l (.loop a1)::I k)) (fun _=>hex fun x:Code×LH=>cR (dz (jG K env Lx x.1 x.2)::own l (.loop { a1 with state:=.done,pending:=some x.1 })::x.2)) hy;have b3:a.eval g=.func (.func gf) #[] cap.toArray:=aP ea.agr hg;refine⟨l,mkD a0,w₁,{ target:=.fn (.func gf) cap.toArray,args:=#[.func (.yield l) #[] #[]] },w₁,gf,(.func (.yield l) #[] #[]::cap).toArray,w₁,he,?_,fun _ _=>trivial,?_,(fun h=>by cases h),pu ?_⟩
  ·simp only[resolve,Deferred.ofValue,b3];simp[Act.eval]
  ·have:=b5 (.func (.yield l) #[] #[]::cap).toArray w₁
   simpa [invoke] using this
  have s2:Sat θ (cR (own l (.loop a1)::I 0)::Lg++(mkH a0++(mkH M++Y))) w₁:=by
   refine Sat.d7 (A:=own l (.loop a1)::I 0) (s1.perm ?_);simp only[ao];refine List.Perm.cons _ ?_;rw[aH];refine perm_front.trans ?_;refine List.Perm.append_left _ ?_;exact perm_front
  refine(ht.calls θ _ w₁ s2).mono ?_;rintro e w₂ ⟨v,L',rfl,b6,s3⟩;rcases b6 with rfl|⟨k,rfl⟩
  ·have s4:Sat θ (own l (.loop a1)::(I a2.length++(Lx++(mkH a0++(mkH M++Y))))) w₂:=Sat.ofStars (A:=own l (.loop a1)::I a2.length) s3;have hh:=s4.own_heap;refine⟨none,_,(by rw[←a9];exact lU hh (by rw[b0];simp)),?_⟩;have s5:=(Sat.d8 (rec':={ a1 with state:=.exhausted }) s4).tail;refine⟨env,I a2.length++Lx,⟨a0++M,⟨ea.size,ea.at_⟩,by simp[mkD,hm],?_⟩,a6⟩;have e:mkH (a0++M)++Y=mkH a0++(mkH M++Y):=by simp[mkH]
   rw[e,aH];exact s5
  ·obtain⟨⟨c,L₂⟩,s4⟩:=Sat.ofHex (L:=Lx++(mkH a0++(mkH M++Y))) s3;have s5:Sat θ (dz (jG K env Lx c L₂)::(own l (.loop { a1 with state:=.done,pending:=some c })::(L₂++(Lx++(mkH a0++(mkH M++Y)))))) w₂:=Sat.ofStars (A:=dz (jG K env Lx c L₂)::own l (.loop { a1 with state:=.done,pending:=some c })::L₂) s4;have hj:=s5.ofPure;have s6:=s5.tail;have hh:=s6.own_heap;have s7:=(Sat.d8 (rec':={ ({ a1 with state:=.done,pending:=some c }:Loop) with state:=.exhausted }) s6).tail;refine⟨some c,_,lU hh bZ,?_⟩
   have b1:At N env (L₂++Lx) θ Y { a with defers:=mkD a0++a.defers } { w₂ with heap:=w₂.heap.setIfInBounds l (.loop { ({ a1 with state:=.done,pending:=some c }:Loop) with state:=.exhausted }) }:=by
    refine⟨a0++M,⟨ea.size,ea.at_⟩,by simp[mkD,hm],?_⟩;have e:mkH (a0++M)++Y=mkH a0++(mkH M++Y):=by simp[mkH]
    rw[e,aH];exact s7
   cases c with
   | ret=>exact wpIn_ret ⟨env,_,b1,hj⟩
   | exit id=>exact wpIn_exit ⟨env,_,b1,hj⟩
   | _=>exact hj.elim
 refine wpIn_rangeFunc fun fn _=>?_;cases r with
 | none =>
  have s1:=s0.alloc (o:=.deferred (some []));have s2:=s1.alloc (o:=.loop { state:=.ready,pending:=none,fn,tmps:=a.tmps,params:=ps,assign,body,defers:=w.heap.size });refine a4 fn (w.heap.size+1) w.heap.size [w.heap.size] _ me ?_;rw[World.size_alloc] at s2;exact s2
 | some l =>
  obtain⟨a1,Y',hY⟩:=hr l rfl
  have b4:w.heap[l]? = some (.loop a1):=by
   have s1:Sat θ (own l (.loop a1)::(I 0++Lg++(mkH M++Y'))) w:=s0.perm (by
    have h1:(I 0++Lg++(mkH M++Y)).Perm (I 0++Lg++(mkH M++(own l (.loop a1)::Y'))):=(hY.append_left _).append_left _;refine h1.trans ?_;rw[←aH,←aH (I 0++Lg)];exact gm)
   exact s1.own_heap
  exact a4 fn w.heap.size a1.defers [] _ (mc b4) s0.alloc
def Ent.openS{A L:LH}:Ent (cR A::L) (A++L):=fun θ R w s=>by
 have h:Sat θ (A++(L++R)) w:=Sat.ofStars (L:=L++R) s;rw[aH];exact h
def Ent.l6{A L:LH}:Ent (A++L) (cR A::L):=fun θ R w s=>by
 rw[aH] at s;exact Sat.d7 s
def andP(A B:HP):HP:=fun ι _=>A ι Hp.emp∧B ι Hp.emp
def PersM.and{A B:HP}(hA:PersM A)(hB:PersM B):PersM (andP A B) :=
 ⟨fun _ _ h=>h,fun ι ι' _ hs h=>⟨hA.mono ι ι' _ hs h.1,hB.mono ι ι' _ hs h.2⟩⟩
def Ent.andE{A B:HP}{L:LH}:Ent (andP A B::L) (A::B::L):=fun θ R w s=>by
 obtain⟨ok,ι,h',a,b1,c,ι₀,h₁,h₂,d1,d2,d3,d4,d5,d6⟩:=s;exact⟨ok,ι,h',a,b1,c,ι₀,Hp.emp,h₂,d1,Hp.d8 _,Hp.d7 _,d4,d5.1,ι₀,Hp.emp,h₂,d1,Hp.d8 _,Hp.d7 _,Hp.sub.refl _,d5.2,d6⟩
def Ent.e9{A B:HP}{L:LH}(hA:PersM A)(hB:PersM B):Ent (A::B::L) (andP A B::L):=fun θ R w s=>by
 obtain⟨ok,ι,h',a,b1,c,ι₁,h₁,h₂,d1,d2,d3,d4,d5,ι₂,h₃,h₄,e1,e2,e3,e4,e5,e6⟩:=s;exact⟨ok,ι,h',a,b1,c,ι,Hp.emp,h₄,Hp.sub.refl _,Hp.d8 _,Hp.d7 _,e4.trans d4,⟨hA.mono _ _ _ d1 (hA.pers _ _ d5),hB.mono _ _ _ e1 (hB.pers _ _ e5)⟩,e6⟩
def cT{α:Type}{f:α→HP}{l:List α}(hf:∀x,PersM (f x)):PersM (allP f l) :=
 ⟨fun _ _ h=>h,fun ι ι' _ hs h x hx=>(hf x).mono ι ι' _ hs (h x hx)⟩
end fv
end
end Go.V
namespace Go.Proofs.YtommnllbflbdmaaGreatDoor
open Go.V
attribute [local irreducible] G GO GP GPW GPK Ev Ef EfR Ent CB GB Enters
def getElem!_of{α:Type}[Inhabited α]{l:List α}{i:Nat}(h:i<l.length):l[i]! = l[i]:=by
 rw[List.getElem!_eq_getElem?_getD,List.getElem?_eq_getElem h];rfl
def I64(n:Int):Prop:=-9223372036854775808≤n∧n≤9223372036854775807
def aI{α:Type}[Inhabited α]{l:List α}{i:Nat}(h:i<l.length):l[i]!∈l:=by rw[getElem!_of h];exact ed h
def eZ{α:Type}[Inhabited α]{l:List α}{k:Nat}(h:k<l.length):l.drop k=l[k]!::l.drop (k+1):=by
 rw[eh h,getElem!_of h]
def el{α β:Type}[Inhabited α][Inhabited β](f:α→β){l:List α}{k:Nat}(h:k<l.length):(l.map f)[k]! = f l[k]!:=by
 rw[getElem!_of (by simpa using h),getElem!_of h];simp
abbrev Lot:=Int×Int×Int
abbrev LL:=List Lot
def aj(l:Lot):LV:=[ac l.1,ac l.2.1,ac l.2.2]
def co(t:Lot):∀u∈aj t,u.oneCell' = true:=by simp[aj,Value.oneCell']
instance:EncC aj:=⟨co⟩
structure Stk where
 ad:OA
 cap:Nat
 lots:LL
 deriving Inhabited
def Stk.v(s:Stk):Value:=ah s.ad s.lots.length s.cap
abbrev stkP(s:Stk):HP:=isl aj 3 s.ad s.lots
def mR(s:Stk):PersM (stkP s):=bN _ _ _ _
def encN(n:Int):Value:=ac n
abbrev tLot:Nat:=91
def ig{L:LH}(ad:OA)(n c:Nat)(xs:LL)[Rds L ad Lot aj 3 xs](hn:n=xs.length)(hb:n≤1000000) :
  Tri ai 127 #[ah ad n c] L (fun v L'=>∃a1 a0,v=ah a1 xs.length a0∧L' = osl aj 3 tLot a1 a0 xs::L):=by
 refine Tri.bd ?_;repeat' first|refine aa ?_|intro _|with_reducible refine CB.dec (fun _=>?_) (fun _=>?_)|with_reducible refine GB.dec (fun _=>?_) (fun _=>?_)|with_reducible refine CB.bool (fun _=>?_) (fun _=>?_)|with_reducible refine GB.bool (fun _=>?_) (fun _=>?_)
 ·have h:ad=none:=by assumption
  subst h;refine KX.l0 (.inl rfl) (oh (L:=L) (xs:=xs)) ?_;intro hx;subst hx;refine KX.d7 al (Ent.d8 aj 3 tLot) ⟨_,_,rfl,rfl⟩
 ·refine GO.ent (Ent.f7 (enc:=aj) (sz:=3) (xs:=[]) rfl rfl bZ bZ) ?_;refine GO.ef (Ef.g8 rfl rfl rfl rfl hn (fun e _=>co e) fW fW) ag ?_;rintro _ _⟨a1,a0,rfl,rfl⟩;refine Jq ?_;intros;refine KX.d7 al (Ent.refl _) ⟨a1,a0,rfl,rfl⟩
def LotOk(l:Lot):Prop:=0≤l.1∧0≤l.2.1∧l.2.1≤1099511627776∧1≤l.2.2∧l.2.2≤1099511627776 - l.2.1
def jz{φ ψ:Prop}(k:ψ)(h:Hid ψ→φ:=by intro k;first|refine GO.ci (f:=267) (Hid.out k)|refine GPW.ci (f:=267) (Hid.out k)|refine GO.cf (f:=267) rfl (Hid.out k)|refine GPW.cf (f:=267) rfl (Hid.out k)|refine KX.inA (Hid.out k)):φ:=h ⟨k⟩
def iv{L:LH}(ad:OA)(n c:Nat)(xs:LL)[Rds L ad Lot aj 3 xs](hn:n=xs.length)(hb:xs.length≤4096)(hx:∀l∈xs,LotOk l) :
  Tri ai 261 #[ah ad n c] L (fun v L'=>v=.bool true∧L' = L):=by
 refine Tri.bd ?_;repeat first|refine aa ?_|intro _|refine jz ?_
 refine G.loop (α:=Nat) (fun i=>i≤n) (fun i=>[(0,ah ad n c),(8,ah ad n c),(9,ac n),(10,ac (i:Int))]) (fun _=>L) (fun i=>n - i) 0 (aw _) av (Ent.refl _) ?_;intro i hi;by_cases a1:i<n
 case neg =>
  repeat first|refine aa ?_|intro _|refine jz ?_
  exact KX.en ⟨rfl,rfl⟩
 obtain⟨o1,o2,o3,o4,o5⟩:=hx _ (aI (ab:i<xs.length));have a0:(i:Int).toNat=i:=ab;rw[←a0] at o1 o2 o3 o4 o5;repeat first|refine aa ?_|intro _|refine jz ?_
 rw[aS o5];repeat first|refine aa ?_|intro _|refine jz ?_
 refine⟨i+1,ab,ab,?_,?_⟩
 ·rw[aV i];exact av
 ·exact ae
def glk{κ α:Type}[DecidableEq κ](m:List (κ×α))(k:κ):Option α:=m.lookup k
def pb{κ α:Type}[DecidableEq κ]{m:List (κ×α)}{k:κ}{a:α}:∀p∈gins m k a,p∈(k,a)::m:=by
 intro p hp;unfold gins at hp;split at hp
 ·obtain⟨q,hq,rfl⟩:=List.mem_map.1 hp;split
  ·exact aq ..
  ·exact au _ hq
 ·rcases List.mem_append.1 hp with h|h
  ·exact au _ h
  ·simp at h;subst h;exact aq ..
def Hh{κ α:Type}[DecidableEq κ](m:List (κ×α))(k:κ)(a:α):(gins m k a).length≤m.length+1:=by
 unfold gins;split<;>simp
def lsum(xs:LL):Int:=xs.foldl (fun s l=>s+l.2.2) 0
def eJ(xs:LL){i:Nat}(h:i<xs.length):lsum (xs.take (i+1))=lsum (xs.take i)+xs[i]!.2.2:=by
 unfold lsum;rw[aD h,cv,getElem!_of h];rfl
def gV{xs:LL}(h:∀l∈xs,LotOk l):∀i,i≤xs.length→0≤lsum (xs.take i)∧lsum (xs.take i)≤(i:Int)*1099511627776:=by
 intro i;induction i with
 | zero=>intro _;simp[lsum]
 | succ i ih =>
  intro hi;obtain⟨h1,h2⟩:=ih ab;obtain⟨o1,o2,o3,o4,o5⟩:=h _ (aI (ab:i<xs.length));rw[eJ xs ab];have:((i+1:Nat):Int)*1099511627776=(i:Int)*1099511627776+1099511627776:=ab
  rw[this];omega
def nI{L:LH}(ad:OA)(n c:Nat)(xs:LL)[Rds L ad Lot aj 3 xs](hn:n=xs.length)(hb:xs.length≤4096)(hx:∀l∈xs,LotOk l) :
  Tri ai 71 #[ah ad n c] L (fun v L'=>v=ac (lsum xs)∧L' = L):=by
 refine Tri.bd ?_;refine Jq ?_;intros;refine G.loop (α:=Nat) (fun i=>i≤n) (fun i=>[(0,ah ad n c),(3,ac (lsum (xs.take i))),(6,ah ad n c),(7,ac n),(8,ac (i:Int))]) (fun _=>L) (fun i=>n - i) 0 (aw _) av (Ent.refl _) ?_;intro i hi;by_cases a0:i<n
 case neg =>
  rw[aF (ab:xs.length≤i)];refine Jq ?_;intros;exact KX.en ⟨rfl,rfl⟩
 have a1:=gV hx i ab;obtain⟨o1,o2,o3,o4,o5⟩:=hx _ (aI (ab:i<xs.length));have hs:=eJ xs (ab:i<xs.length);have hm:(i:Int)*1099511627776≤4096*1099511627776:=bV ab ag;refine Jq ?_;intros;rw[aC];refine Jq ?_;intros;refine⟨i+1,ab,ab,?_,Ent.drop⟩;rw[hs,aV i];exact av
def Ev.C4{P:Program}{L:LH}{env:Env}{ty:TypeId}{κ α:Type}{t K E:TypeId}{z:Value}{x:Operand}{b:Nat}{kv:κ→Value}{enc:α→Value}{m:List (κ×α)}{R:LH}[ht:TyG P t K E z][hp:PickG L b κ α kv enc m R](hx:evE env x=some (.map (some b))) :
  Ev P L env (.call { callee:=.builtin .len,args:=#[x],argTypes:=#[t] }) ty (ac (m.length:Int)) :=
 Ev.mk (fun θ R _ w ea s _ _ _ _=>by
  obtain⟨es,a0,e1,e2,e3,e4,e5,s2⟩:=(s.perm (hp.perm.append_right R)).gmap_parts;have hb:=s2.own_heap;have a1:(getObj b).run P w=.ok (.map es a0) w:=by simp[getObj,Sem.run,hb]
  have a2:es.size=m.length:=by
   have:=congrArg List.length e1
   simpa using this
  simp[execOp,resolve,invoke,aP ea hx,builtin,Builtin.len_,run_underlying ht.under,a1,goInt,a2])
def Ev.B7{P:Program}{L:LH}{env:Env}{ty:TypeId}{t f off:Nat}{x:Operand}{cs:LV}{v:Value}{fs:Array Field}{fd:Field}(h1:P.underlying t=some (.struct fs))(h2:fs[f]? = some fd)(h3:fd.offset=off)(h4:∀w,(isAgg fd.type).run P w=.ok false w)
  (hx:evE env x=some (aN cs)) (hv:cs[off]? = some v):Ev P L env (.field t x f) ty v :=
 Ev.mk (fun θ R _ w ea s _ _ _ _=>by
  simp[execOp,aP ea hx,Instr.field,run_underlying h1,h2,h3,asAgg,part,h4,hv])
def cw(a:Int×Int):LV:=[ac a.1,ac a.2]
def qC(t:Int×Int):∀u∈cw t,u.oneCell' = true:=by simp[cw,Value.oneCell']
instance:EncC cw:=⟨qC⟩
