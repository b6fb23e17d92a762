/- Lemmas. -/
import Derived.Test.YtlgpgjdggilkgaaGreatDoorEcah
import Derived.Sort.Grow
import Derived.Lib.SlicesCompact
import Derived.ArgAppend
set_option linter.all false
namespace Go.V
section
open Go.Sort
def vO{d:List Int}{a0:Array Value}{m:Nat}(hm:m≤d.length)(hc:d.length≤a0.size):(putCells (Value.int .i64) 0 d.toArray a0).toList.take (m*1)=(d.take m).flatMap (encZ .i64):=by
 rw[nK,Nat.mul_one];apply ib;intro i;by_cases hi:i<m
 ·have h1:i<d.length:=ab;have h2:i<a0.size:=ab;rw[List.getElem?_take,if_pos hi];simp[putCells,h1,h2,hi]
 ·rw[List.getElem?_take,if_neg hi];simp;omega
def Sat.putRow{θ:Th}{g E:Nat}{a1:Array Value}{R:LH}{w:World}{d:Array Int}{n:Nat}{os:Array Obj}(s:Sat θ (own g (.cells a1 E (0,0))::R) w) :
  Sat θ (own g (.cells (putCells (Value.int .i64) 0 d a1) E (0,0))::R) (grow (Sort.putRow (Value.int .i64) (Sort.ahead w n) g 0 d) os):=by
 have hb:=s.own_heap;have a2:g<w.heap.size:=(Array.getElem?_eq_some_iff.1 hb).1;refine s.update ⟨s.1.tape,s.1.os,s.1.output,aP s.1.drawn (dW _ _)⟩ ?_ ?_
 ·show(w.heap.modify g (onCells (putCells (Value.int .i64) 0 d))++os)[g]? = _;rw[Array.getElem?_append_left (by simpa using a2),Array.getElem?_modify,if_pos rfl,hb];rfl
 ·intro k x hk hx;have a0:k<w.heap.size:=(Array.getElem?_eq_some_iff.1 hx).1;show(w.heap.modify g (onCells (putCells (Value.int .i64) 0 d))++os)[k]? = _;rw[Array.getElem?_append_left (by simpa using a0),Array.getElem?_modify,if_neg (fun e=>hk e.symm),hx]
def Fx{g E:Nat}{a0:Array Value}{xs:List Int}{w:World}(hb:w.heap[g]? = some (.cells a0 E (0,0)))(ht:a0.toList.take (xs.length*1)=xs.flatMap (encZ .i64)):Holds (Value.int .i64) w g 0 xs.toArray:=by
 intro j hj;have a1 : j<xs.length:=by simpa using hj
 refine⟨?_,by simp[World.frozen?,hb]⟩;rw[du,eD hb];have h:(a0.toList.take (xs.length*1))[j]? = (xs.flatMap (encZ .i64))[j]?:=by rw[ht]
 rw[nK,List.getElem?_take,if_pos ab] at h;simp[a1] at h;simp[a1,h]
def Tri.d7{P:Program}{f:FuncId}{E cap:Nat}{ad:OA}{xs ys:List Int}{L:LH}(he:Enters P f)(a5:ys.length=xs.length)(a7:xs.length<4611686018427387904)
  (h0:xs.length=0→∀w,Calls P f #[.slice ad 0 cap] w fun e w'=>e=.returned (.tuple #[])∧w' = w)
  (h1:∀a0 w,Holds (Value.int .i64) w a0 0 xs.toArray→a0<w.heap.size→Calls P f #[.slice (some ⟨a0,0,none⟩) xs.length cap] w fun e w'=>e=.returned (.tuple #[])∧∃n os,w' = grow (Sort.putRow (Value.int .i64) (Sort.ahead w n) a0 0 ys.toArray) os) :
  Tri P f #[.slice ad xs.length cap] (osl (encZ .i64) 1 E ad cap xs::L) (fun v L'=>v=.tuple #[]∧L' = osl (encZ .i64) 1 E ad cap ys::L):=by
 refine⟨he,fun θ R w s=>?_⟩;by_cases hx:xs.length=0
 ·have e1:xs=[]:=aZ hx;have e2:ys=[]:=aZ ab;subst e1 e2;refine(h0 rfl w).mono ?_;rintro e w' ⟨rfl,rfl⟩;exact⟨_,_,rfl,⟨rfl,rfl⟩,s⟩
 obtain⟨a1,a2,a3,a4⟩:=Sat.osl_parts (L:=L++R) s;rcases a4 with⟨rfl,rfl⟩|⟨g,a6,rfl,b1,b2,b3⟩
 ·omega
 have hb:=b3.own_heap;refine(h1 g w (Fx hb b2) (Array.getElem?_eq_some_iff.1 hb).1).mono ?_;rintro e w' ⟨rfl,n,os,rfl⟩;refine⟨_,_,rfl,⟨rfl,rfl⟩,?_⟩;refine Sat.osl_mk (L:=L++R) (Sat.putRow b3) (fun _ _=>rfl) ab a3 ?_ ?_
 ·simp[putCells,b1]
 ·rw[vO (aq _) (by rw[b1];omega),cC]
end
section
section fv
variable {P:Program}{N:Nat}{env:Env}{L:LH}{K:Post}{ty:TypeId}
def Ej(P:Program)(gf:FuncId)(cap:LV)(a0:List (LV))(Lg Lx:LH):Prop :=
 ∀(l:Nat) (J Jx:Nat→HP),(∀k (hk:k<a0.length),YTri P l a0[k] [J k] (fun v L'=>(v=.bool true∧L' = [J (k+1)])∨(v=.bool false∧L' = [Jx k]))) →
  Tri P gf (.func (.yield l) #[] #[]::cap).toArray (J 0::Lg) (fun _ L'=>L' = J a0.length::Lx∨∃k,L' = Jx k::Lx)
def G.d8{g:Operand}{ps:Array Tmp}{assign body:Code}{gf:FuncId}{cap:LV}{a2:List (LV)}{Lg Lx:LH}(it:Ej P gf cap a2 Lg Lx)(hg:evE env g=some (.func (.func gf) #[] cap.toArray))
  (b4:Enters P gf) (b7:∀p∈ps,p<N) (a9:∀vs∈a2,vs.length=ps.size) (I:Nat→LH) (hl:Ent L (I 0++Lg))
  (a4:∀k (hk:k<a2.length),G P N assign (penv env (ps.toList.zip a2[k])) (I k) (Post.seq (fun a7 L'=>G P N body a7 L' (ri K env Lx (I (k+1)))) (fun _ _ _=>False)))
  (a5:K .normal env (I a2.length++Lx)):G P N (.rangeFunc g ps assign body) env L K:=by
 intro r θ Y a w hr i;obtain⟨M,ea,hm,s⟩:=i;have s0:Sat θ (I 0++Lg++(mkH M++Y)) w:=hl θ _ w s;-- what is the same in both cases
 have a6:∀(fn:FuncId) (l D:Nat) (a0:List Nat) (w₁:World),(Instr.enterLoop fn a.tmps ps assign body r).run P w=.ok (l,mkD a0) w₁ →
   Sat θ (own l (.loop { state:=.ready,pending:=none,fn,tmps:=a.tmps,params:=ps,assign,body,defers:=D })::(mkH a0++(I 0++Lg++(mkH M++Y)))) w₁ →
   ∃(l:Nat) (a0:List Deferred) (w₁:World) (d:Deferred) (w₁' : World) (f:FuncId) (args:Array Value) (w₂:World),
   (Instr.enterLoop fn a.tmps ps assign body (FW r).round).run P w=.ok (l,a0) w₁ ∧
   (resolve a.eval (rangeCall g l) 0).run P w₁=.ok d w₁' ∧
   (∀f',Target.leads P w₁' d.target d.args=some f'→(FW r).fn f') ∧
   (invoke d.target d.args).run P w₁' = .ok (.enter f args) w₂ ∧
   ((FW r).depth.isSome=true→1≤0) ∧
   CallsIn (FW r) (0 - 1) P f args w₂ (rangePost (FW r) 0 P l (QK θ Y N K) { a with defers:=a0++a.defers }):=by
  intro fn l D a0 w₁ he s1;obtain⟨a1,a3⟩:∃a1:Loop,a1={ state:=.ready,pending:=none,fn,tmps:=a.tmps,params:=ps,assign,body,defers:=D }:=⟨_,rfl⟩;rw[←a3] at s1;have b2:a1.state=.ready:=by rw[a3]
  have b1:a1.pending=none:=by rw[a3]
  have hy:∀k (hk:k<a2.length),YTri P l a2[k] [cm (own l (.loop a1)::I k)] (fun v L'=>(v=.bool true∧L' = [cm (own l (.loop a1)::I (k+1))])∨(v=.bool false∧L' = [hex fun x:Code×LH=>cm (cY (io K env Lx x.1 x.2)::own l (.loop { a1 with state:=.done,pending:=some x.1 })::x.2)])):=by
   intro k hk;refine oG b2 b1 (by rw[a3];exact a9 _ (bR _)) (by rw[a3];exact b7) (env:=env) ?_ ?_
   ·rw[a3];exact⟨ea.size,ea.at_⟩
   ·rw[a3];exact a4 k hk
  have ht:=it l (fun k=>cm (own l (.loop a1)::I k)) (fun _=>hex fun x:Code×LH=>cm (cY (io K env Lx x.1 x.2)::own l (.loop { a1 with state:=.done,pending:=some x.1 })::x.2)) hy;have b5:a.eval g=.func (.func gf) #[] cap.toArray:=aL ea.agr hg;refine⟨l,mkD a0,w₁,{ target:=.fn (.func gf) cap.toArray,args:=#[.func (.yield l) #[] #[]] },w₁,gf,(.func (.yield l) #[] #[]::cap).toArray,w₁,he,?_,fun _ _=>trivial,?_,(fun h=>by cases h),mC ?_⟩
  ·simp only[resolve,Deferred.ofValue,b5];simp[Act.eval]
  ·have:=b4 (.func (.yield l) #[] #[]::cap).toArray w₁
   simpa [invoke] using this
  have s2:Sat θ (cm (own l (.loop a1)::I 0)::Lg++(mkH a0++(mkH M++Y))) w₁:=by
   refine Sat.a8 (A:=own l (.loop a1)::I 0) (s1.perm ?_);simp only[al];refine List.Perm.cons _ ?_;rw[aB];refine perm_front.trans ?_;refine List.Perm.append_left _ ?_;exact perm_front
  refine(ht.calls θ _ w₁ s2).mono ?_;rintro e w₂ ⟨v,L',rfl,b3,s3⟩;rcases b3 with rfl|⟨k,rfl⟩
  ·have s4:Sat θ (own l (.loop a1)::(I a2.length++(Lx++(mkH a0++(mkH M++Y))))) w₂:=Sat.ofStars (A:=own l (.loop a1)::I a2.length) s3;have hh:=s4.own_heap;refine⟨none,_,(by rw[←b1];exact jA hh (by rw[b2];simp)),?_⟩;have s5:=(Sat.c7 (rec':={ a1 with state:=.exhausted }) s4).tail;refine⟨env,I a2.length++Lx,⟨a0++M,⟨ea.size,ea.at_⟩,by simp[mkD,hm],?_⟩,a5⟩;have e:mkH (a0++M)++Y=mkH a0++(mkH M++Y):=by simp[mkH]
   rw[e,aB];exact s5
  ·obtain⟨⟨c,L₂⟩,s4⟩:=Sat.ofHex (L:=Lx++(mkH a0++(mkH M++Y))) s3;have s5:Sat θ (cY (io K env Lx c L₂)::(own l (.loop { a1 with state:=.done,pending:=some c })::(L₂++(Lx++(mkH a0++(mkH M++Y)))))) w₂:=Sat.ofStars (A:=cY (io K env Lx c L₂)::own l (.loop { a1 with state:=.done,pending:=some c })::L₂) s4;have hj:=s5.ofPure;have s6:=s5.tail;have hh:=s6.own_heap;have s7:=(Sat.c7 (rec':={ ({ a1 with state:=.done,pending:=some c }:Loop) with state:=.exhausted }) s6).tail;refine⟨some c,_,jA hh cc,?_⟩
   have b0:At N env (L₂++Lx) θ Y { a with defers:=mkD a0++a.defers } { w₂ with heap:=w₂.heap.setIfInBounds l (.loop { ({ a1 with state:=.done,pending:=some c }:Loop) with state:=.exhausted }) }:=by
    refine⟨a0++M,⟨ea.size,ea.at_⟩,by simp[mkD,hm],?_⟩;have e:mkH (a0++M)++Y=mkH a0++(mkH M++Y):=by simp[mkH]
    rw[e,aB];exact s7
   cases c with
   | ret=>exact wpIn_ret ⟨env,_,b0,hj⟩
   | exit id=>exact wpIn_exit ⟨env,_,b0,hj⟩
   | _=>exact hj.elim
 refine wpIn_rangeFunc fun fn _=>?_;cases r with
 | none =>
  have s1:=s0.alloc (o:=.deferred (some []));have s2:=s1.alloc (o:=.loop { state:=.ready,pending:=none,fn,tmps:=a.tmps,params:=ps,assign,body,defers:=w.heap.size });refine a6 fn (w.heap.size+1) w.heap.size [w.heap.size] _ jH ?_;rw[World.size_alloc] at s2;exact s2
 | some l =>
  obtain⟨a1,Y',hY⟩:=hr l rfl
  have b6:w.heap[l]? = some (.loop a1):=by
   have s1:Sat θ (own l (.loop a1)::(I 0++Lg++(mkH M++Y'))) w:=s0.perm (by
    have h1:(I 0++Lg++(mkH M++Y)).Perm (I 0++Lg++(mkH M++(own l (.loop a1)::Y'))):=(hY.append_left _).append_left _;refine h1.trans ?_;rw[←aB,←aB (I 0++Lg)];exact dX)
   exact s1.own_heap
  exact a6 fn w.heap.size a1.defers [] _ (jG b6) s0.alloc
def Ent.openS{A L:LH}:Ent (cm A::L) (A++L):=fun θ R w s=>by
 have h:Sat θ (A++(L++R)) w:=Sat.ofStars (L:=L++R) s;rw[aB];exact h
def Ent.f9{A L:LH}:Ent (A++L) (cm A::L):=fun θ R w s=>by
 rw[aB] at s;exact Sat.a8 s
def andP(A B:HP):HP:=fun ι _=>A ι Hp.emp∧B ι Hp.emp
def PersM.and{A B:HP}(hA:PersM A)(hB:PersM B):PersM (andP A B) :=
 ⟨fun _ _ h=>h,fun ι ι' _ hs h=>⟨hA.mono ι ι' _ hs h.1,hB.mono ι ι' _ hs h.2⟩⟩
def Ent.andE{A B:HP}{L:LH}:Ent (andP A B::L) (A::B::L):=fun θ R w s=>by
 obtain⟨ok,ι,h',a,b1,c,ι₀,h₁,h₂,d1,d2,d3,d4,d5,d6⟩:=s;exact⟨ok,ι,h',a,b1,c,ι₀,Hp.emp,h₂,d1,Hp.c7 _,Hp.a8 _,d4,d5.1,ι₀,Hp.emp,h₂,d1,Hp.c7 _,Hp.a8 _,Hp.sub.refl _,d5.2,d6⟩
def Ent.f8{A B:HP}{L:LH}(hA:PersM A)(hB:PersM B):Ent (A::B::L) (andP A B::L):=fun θ R w s=>by
 obtain⟨ok,ι,h',a,b1,c,ι₁,h₁,h₂,d1,d2,d3,d4,d5,ι₂,h₃,h₄,e1,e2,e3,e4,e5,e6⟩:=s;exact⟨ok,ι,h',a,b1,c,ι,Hp.emp,h₄,Hp.sub.refl _,Hp.c7 _,Hp.a8 _,e4.trans d4,⟨hA.mono _ _ _ d1 (hA.pers _ _ d5),hB.mono _ _ _ e1 (hB.pers _ _ e5)⟩,e6⟩
def cH{α:Type}{f:α→HP}{l:List α}(hf:∀x,PersM (f x)):PersM (allP f l) :=
 ⟨fun _ _ h=>h,fun ι ι' _ hs h x hx=>(hf x).mono ι ι' _ hs (h x hx)⟩
end fv
end
section
def asl{α:Type}(enc:α→LV)(sz E:Nat)(ad:OA)(cap:Nat)(xs:List α):HP:=fun ι h =>
 osl enc sz E ad cap xs ι h∨((cap=xs.length∧xs.length≤maxLen)∧isl enc sz ad xs ι h)
class PickAsl (L:LH) (ad:OA) (α:outParam Type) (enc:outParam (α→LV)) (sz E:outParam Nat) (cap:outParam Nat) (xs:outParam (List α)) (R:outParam (LH)):Prop where
 perm:L.Perm (asl enc sz E ad cap xs::R)
instance {α:Type}(L:LH)(enc:α→LV)(sz E:Nat)(ad:OA)(cap:Nat)(xs:List α):PickAsl (asl enc sz E ad cap xs::L) ad α enc sz E cap xs L:=⟨List.Perm.refl _⟩
instance {α:Type}(A:HP)(L:LH)(enc:α→LV)(sz E:Nat)(ad:OA)(cap:Nat)(xs:List α)(R:LH)[h:PickAsl L ad α enc sz E cap xs R]:PickAsl (A::L) ad α enc sz E cap xs (A::R):=⟨(h.perm.cons A).trans (List.Perm.swap _ _ _)⟩
section
variable {α:Type}{θ:Th}{enc:α→LV}{sz E:Nat}{ad:OA}{cap:Nat}{xs:List α}{L:LH}{w:World}
def Sat.asl_cases(s:Sat θ (asl enc sz E ad cap xs::L) w):Sat θ (osl enc sz E ad cap xs::L) w∨((cap=xs.length∧xs.length≤maxLen)∧Sat θ (isl enc sz ad xs::L) w):=by
 obtain⟨ok,ι,h,a,b1,c,ι₀,h₁,h₂,d1,d2,d3,d4,e,d6⟩:=s;rcases e with e|⟨e1,e2⟩
 ·exact .inl ⟨ok,ι,h,a,b1,c,ι₀,h₁,h₂,d1,d2,d3,d4,e,d6⟩
 ·exact .inr ⟨e1,ok,ι,h,a,b1,c,ι₀,h₁,h₂,d1,d2,d3,d4,e2,d6⟩
def Ent.ofOsl:Ent (osl enc sz E ad cap xs::L) (asl enc sz E ad cap xs::L):=fun θ R w s=>by
 obtain⟨ok,ι,h,a,b1,c,ι₀,h₁,h₂,d1,d2,d3,d4,e,d6⟩:=s;exact⟨ok,ι,h,a,b1,c,ι₀,h₁,h₂,d1,d2,d3,d4,.inl e,d6⟩
def Ent.m5(hm:xs.length≤maxLen):Ent (isl enc sz ad xs::L) (asl enc sz E ad xs.length xs::L):=fun θ R w s=>by
 obtain⟨ok,ι,h,a,b1,c,ι₀,h₁,h₂,d1,d2,d3,d4,e,d6⟩:=s;exact⟨ok,ι,h,a,b1,c,ι₀,h₁,h₂,d1,d2,d3,d4,.inr ⟨⟨rfl,hm⟩,e⟩,d6⟩
def Sat.f9(s:Sat θ (asl enc sz E ad cap xs::L) w):RdSl w enc sz ad xs:=by
 rcases s.asl_cases with s|⟨_,s⟩
 ·exact s.osl_rd
 ·exact s.isl_rd
def Jd{R' : LH}[h:PickAsl L ad α enc sz E cap xs R']:∀θ R w,Sat θ (L++R) w→xs.length≤cap∧cap≤9223372036854775807:=fun θ R w s=>by
 rcases (s.perm (h.perm.append_right R)).asl_cases with s|⟨⟨e1,e2⟩,s⟩
 ·have:=s.osl_parts
  simp only[maxLen] at this;exact⟨this.2.1,ab⟩
 ·simp only[maxLen] at e2;omega
end
instance {α:Type}(L:LH)(enc:α→LV)(sz E:Nat)(ad:OA)(cap:Nat)(xs:List α):Rds (asl enc sz E ad cap xs::L) ad α enc sz xs:=⟨fun _ _ _ s=>Sat.f9 s⟩
section ops
variable {P:Program}{N:Nat}{env:Env}{L:LH}{ty:TypeId}
def Ef.l7{t:TypeId}{x y:Operand}{α:Type}{enc:α→LV}{b:Addr}{a7:OA}{n c n2 c2 sz E bb:Nat}{xs ys:List α}{z:LV}[ht:TySl P t E sz bb z][hr:Rds L (some b) α enc sz xs][hq:Rds L a7 α enc sz ys]
  (hx:evE env x=some (.slice (some b) n c)) (hy:evE env y=some (.slice a7 n2 c2)) (hn:n=xs.length) (hc:c=xs.length) (b7:n2=ys.length) (h0:0<ys.length) (hb:(xs.length+ys.length)*bb≤140737488355328) (hm:xs.length+ys.length≤9223372036854775807)
  : Ef P L env (.call { callee:=.builtin .append,args:=#[x,y],argTypes:=#[t,t] }) ty (fun v L'=>∃a6 a0,v=.slice a6 (xs++ys).length a0∧L' = osl enc sz E a6 a0 (xs++ys)::L) :=
 Ef.val (fun θ R a w ea s b8 pos af g=>by
  subst hn hc b7;obtain⟨f1,f2⟩:=hr.rd θ R w s;obtain⟨g1,g2⟩:=hq.rd θ R w s;obtain⟨ii,z0,i1,i2,i3,i4,i5⟩:=ht.parts;rcases g2 with g2|⟨a2,rfl,g3⟩
  ·subst g2;simp at h0
  have hold:∀j u,(xs.flatMap enc)[j]? = some u→w.cell? (b.add j)=some u:=by
   rcases f2 with f2|⟨a1,e1,f3⟩
   ·subst f2;simp
   ·cases e1;exact f3
  obtain⟨v',w',a3,ho,hg⟩:=run_append_arg_grows (P:=P) (w:=w) t ty E ii z0 sz bb ht.under i1 i2 i4 i5 (by rw[←ht.zlen,←i3];simp) ht.pos b xs.length xs.length (xs.flatMap enc) (dm f1) hold a2 ys.length c2 (ys.flatMap enc) (dm g1) g3 ab (by simp only[maxLen];omega) hb;obtain⟨b6,ho⟩:=ho;rcases ho with⟨_,hn⟩|⟨g',a0,b0,rfl,b4,b5,b9,b1,b2,a4⟩
  ·omega
  have b3:=lT _ a3;have ok:θ.ok w':=⟨by rw[hg.tape];exact s.1.tape,by rw[hg.os];exact s.1.os,by rw[hg.output];exact s.1.output,aP s.1.drawn b3⟩
  have a5:∀x∈xs++ys,(enc x).length=sz:=fun x hx=>by
   rcases List.mem_append.1 hx with hx|hx
   ·exact f1 x hx
   ·exact g1 x hx
  have a9:(xs++ys).length=xs.length+ys.length:=by simp
  have s2:Sat θ (own g' (.cells b0 E (0,0))::(L++R)) w':=s.fresh ok b4 b5 (fun k x hk=>by rw[hg.block k (Array.getElem?_eq_some_iff.1 hk).1 cc];exact hk);have s3:=Sat.osl_mk (cap:=a0) s2 a5 ab b1 b2 (by rw[a9,a4];simp);refine⟨_,w',_,?_,⟨some ⟨g',0,none⟩,a0,by rw[a9],rfl⟩,s3⟩;simp[execOp,resolve,invoke,builtin,aL ea hx,aL ea hy,a3])
def Ef.l0{t:TypeId}{x y:Operand}{α:Type}{enc:α→LV}{ad a4:OA}{n c n2 c2 sz E bb cap:Nat}{xs ys:List α}{z:LV}{R1:LH}[ht:TySl P t E sz bb z][hp:PickAsl L ad α enc sz E cap xs R1][hq:Rds R1 a4 α enc sz ys]
  (hx:evE env x=some (.slice ad n c)) (hy:evE env y=some (.slice a4 n2 c2)) (hn:n=xs.length) (hc:c=cap) (a5:n2=ys.length) (h0:0<ys.length) (h1:∀e∈ys,∀u∈enc e,u.oneCell' = true) (hb:(xs.length+ys.length)*bb≤140737488355328) (hm:xs.length+ys.length≤9223372036854775807)
  : Ef P L env (.call { callee:=.builtin .append,args:=#[x,y],argTypes:=#[t,t] }) ty (fun v L'=>∃a1 a0,v=.slice a1 (xs++ys).length a0∧L' = asl enc sz E a1 a0 (xs++ys)::R1):=by
 intro θ R a w o next Q ha s e1 e2 a6
 have s1:=s.perm (hp.perm.append_right R)
 have own:∀{ad:OA} {cap n c:Nat},evE env x=some (.slice ad n c)→n=xs.length→c=cap→Sat θ (osl enc sz E ad cap xs::R1++R) w→Oper.wp P o a w next Q:=fun hx hn hc s2 =>
  Ef.d7 (L:=osl enc sz E _ _ xs::R1) (R1:=R1) (P:=P) (ty:=ty) (t:=t) hx hy hn hc a5 h1 hb hm θ R a w o next Q ha s2 e1 e2 (fun v L' w' ⟨a1,a0,q1,q2⟩ s'=>a6 v _ w' ⟨a1,a0,q1,rfl⟩ (by subst q2;exact Ent.ofOsl θ R w' s'))
 rcases Sat.asl_cases (L:=R1++R) s1 with s2|⟨⟨a2,a9⟩,s2⟩
 ·exact own hx hn hc s2
 ·cases ad with
  | none =>
   have h3:=s2.isl_rd.2
   have a3:xs=[]:=by
    rcases h3 with h3|⟨a',a7,_⟩
    ·exact h3
    ·cases a7
   have hz:cap=0:=by rw[a2,a3];rfl
   subst hz;refine own hx hn hc ?_;rw[a3];exact Sat.d7 enc sz E s2.tail
  | some b =>
   exact Ef.l7 (L:=isl enc sz (some b) xs::R1) (E:=E) (P:=P) (ty:=ty) (t:=t) (xs:=xs) hx hy hn (hc.trans a2) a5 h0 hb hm θ R a w o next Q ha s2 e1 e2 (fun v L' w' ⟨a1,a0,q1,q2⟩ s'=>a6 v _ w' ⟨a1,a0,q1,rfl⟩ (by
    subst q2;exact Ent.ofOsl θ R w' (s'.perm (List.Perm.swap _ _ _)).tail))
def Ef.j6{t:TypeId}{x y:Operand}{α:Type}{enc:α→LV}{ad:OA}{n c sz E bb cap b T:Nat}{xs:List α}{z cs:LV}{R1 R2:LH}(e:α)[ht:TySl P t E sz bb z][hp:PickAsl L ad α enc sz E cap xs R1][hq:PickObj R1 b T cs R2]
  (hx:evE env x=some (.slice ad n c)) (hy:evE env y=some (.slice (some ⟨b,0,none⟩) 1 1)) (he:cs=enc e) (hn:n=xs.length) (hc:c=cap) (hs:cs.length=sz) (h1:∀u∈cs,u.oneCell' = true) (hb:(xs.length+1)*bb≤140737488355328) (hm:xs.length+1≤9223372036854775807)
  : Ef P L env (.call { callee:=.builtin .append,args:=#[x,y],argTypes:=#[t,t] }) ty (fun v L'=>∃a1 a0,v=.slice a1 (xs++[e]).length a0∧L' = asl enc sz E a1 a0 (xs++[e])::R2):=by
 subst he
 have hrd:Rds R1 (some ⟨b,0,none⟩) α enc sz [e]:=⟨fun θ R w s=>by
  have hb:=Sat.obj_heap (R:=R) s hq.perm;refine⟨fun y hy=>by rw[List.mem_singleton.1 hy];exact hs,.inr ⟨_,rfl,fun i v hv=>?_⟩⟩;rw[fZ,eD hb];simpa using hv⟩
 intro θ R a w o next Q ha s e1 e2 a2
 refine Ef.l0 (P:=P) (ty:=ty) (t:=t) (hp:=hp) (hq:=hrd) hx hy hn hc rfl (Nat.zero_lt_one) (fun y hy u hu=>by rw[List.mem_singleton.1 hy] at hu;exact h1 u hu) (by simpa using hb) (by simpa using hm) θ R a w o next Q ha s e1 e2 (fun v L' w' ⟨a1,a0,q1,q2⟩ s'=>a2 v _ w' ⟨a1,a0,q1,rfl⟩ ?_)
 subst q2;have s3:Sat θ (asl enc sz E a1 a0 (xs++[e])::(obj b T (enc e)::R2++R)) w':=s'.perm ((hq.perm.append_right R).cons _);exact(s3.perm (List.Perm.swap _ _ _)).tail
end ops
end
end Go.V
namespace Go.Proofs.YtlgpgjdggilkgaaGreatDoor
section
open Go.V
attribute [local irreducible] G GO GP GPW GPK Ev Ef EfR Ent CB GB Enters
def getElem!_of{α:Type}[Inhabited α]{l:List α}{i:Nat}(h:i<l.length):l[i]! = l[i]:=by
 rw[List.getElem!_eq_getElem?_getD,List.getElem?_eq_getElem h];rfl
def I64(n:Int):Prop:=-9223372036854775808≤n∧n≤9223372036854775807
def aV{α:Type}[Inhabited α]{l:List α}{i:Nat}(h:i<l.length):l[i]!∈l:=by rw[getElem!_of h];exact bR h
def advA_zero(ad:OA)(cap sz:Nat):advA ad cap sz 0=ad:=by
 unfold advA;split
 ·rfl
 ·cases ad with
  | none=>rfl
  | some a=>simp[pH]
def jl{α:Type}[Inhabited α]{l:List α}{k:Nat}(h:k<l.length):l.drop k=l[k]!::l.drop (k+1):=by
 rw[bV h,getElem!_of h]
def iZ{α β:Type}[Inhabited α][Inhabited β](f:α→β){l:List α}{k:Nat}(h:k<l.length):(l.map f)[k]! = f l[k]!:=by
 rw[getElem!_of (by simpa using h),getElem!_of h];simp
abbrev Lot:=Int×Int×Int
abbrev LL:=List Lot
def aG(l:Lot):LV:=[ac l.1,ac l.2.1,ac l.2.2]
def eV(t:Lot):∀u∈aG t,u.oneCell' = true:=by simp[aG,Value.oneCell']
instance:EncC aG:=⟨eV⟩
structure Stk where
 ad:OA
 cap:Nat
 lots:LL
 deriving Inhabited
def Stk.v(s:Stk):Value:=ag s.ad s.lots.length s.cap
abbrev stkP(s:Stk):HP:=isl aG 3 s.ad s.lots
def ta(s:Stk):PersM (stkP s):=bO _ _ _ _
def encN(n:Int):Value:=ac n
abbrev tLot:Nat:=47
def iv{L:LH}(ad:OA)(n c:Nat)(xs:LL)[Rds L ad Lot aG 3 xs](hn:n=xs.length)(hb:n≤1000000) :
  Tri Tryz.prog 102 #[ag ad n c] L (fun v L'=>∃a1 a0,v=ag a1 xs.length a0∧L' = osl aG 3 tLot a1 a0 xs::L):=by
 refine Tri.bd ?_;repeat' first|refine aa ?_|intro _|with_reducible refine CB.dec (fun _=>?_) (fun _=>?_)|with_reducible refine GB.dec (fun _=>?_) (fun _=>?_)|with_reducible refine CB.bool (fun _=>?_) (fun _=>?_)|with_reducible refine GB.bool (fun _=>?_) (fun _=>?_)
 ·have h:ad=none:=by assumption
  subst h;refine KX.f7 (.inl rfl) (mI (L:=L) (xs:=xs)) ?_;intro hx;subst hx;refine KX.a8 aA (Ent.c8 aG 3 tLot) ⟨_,_,rfl,rfl⟩
 ·refine GO.ent (Ent.f7 (enc:=aG) (sz:=3) (xs:=[]) rfl rfl cc cc) ?_;refine GO.ef (Ef.d7 rfl rfl rfl rfl hn (fun e _=>eV e) gJ gJ) ae ?_;rintro _ _⟨a1,a0,rfl,rfl⟩;refine Ks ?_;intros;refine KX.a8 aA (Ent.refl _) ⟨a1,a0,rfl,rfl⟩
def LotOk(l:Lot):Prop:=0≤l.1∧0≤l.2.1∧l.2.1≤1099511627776∧1≤l.2.2∧l.2.2≤1099511627776 - l.2.1
def iE{φ ψ:Prop}(k:ψ)(h:Hid ψ→φ:=by intro k;first|refine GO.ci (f:=116) (Hid.out k)|refine GPW.ci (f:=116) (Hid.out k)|refine GO.cf (f:=116) rfl (Hid.out k)|refine GPW.cf (f:=116) rfl (Hid.out k)|refine KX.inA (Hid.out k)):φ:=h ⟨k⟩
def Xs{φ ψ:Prop}(k:ψ)(h:Hid ψ→φ:=by intro k;(repeat (first|refine aa ?_|intro zzz|refine iE ?_));(repeat revert zzz);exact Hid.out k):φ:=h ⟨k⟩
def gF{L:LH}(ad:OA)(n c:Nat)(xs:LL)[Rds L ad Lot aG 3 xs](hn:n=xs.length)(hb:xs.length≤4096)(hx:∀l∈xs,LotOk l) :
  Tri Tryz.prog 54 #[ag ad n c] L (rtQ (.bool true) L):=by
 refine Tri.bd ?_;refine Xs ?_;intros;refine G.loop (α:=Nat) (fun i=>i≤n) (fun i=>[(0,ag ad n c),(8,ag ad n c),(9,ac n),(10,ac (i:Int))]) (fun _=>L) (fun i=>n - i) 0 (aw _) aC (Ent.refl _) ?_;intro i hi;by_cases a1:i<n
 case neg =>
  refine Xs ?_;intros;exact KX.en ⟨rfl,rfl⟩
 obtain⟨o1,o2,o3,o4,o5⟩:=hx _ (aV (ab:i<xs.length));have a0:(i:Int).toNat=i:=ab;rw[←a0] at o1 o2 o3 o4 o5;refine Xs ?_;intros;rw[bE o5];refine Xs ?_;intros;refine⟨i+1,ab,ab,?_,?_⟩
 ·rw[bh i];exact aC
 ·exact ah
def glk{κ α:Type}[DecidableEq κ](m:List (κ×α))(k:κ):Option α:=m.lookup k
def sq{κ α:Type}[DecidableEq κ]{m:List (κ×α)}{k:κ}{a:α}:∀p∈gins m k a,p∈(k,a)::m:=by
 intro p hp;unfold gins at hp;split at hp
 ·obtain⟨q,hq,rfl⟩:=List.mem_map.1 hp;split
  ·exact av ..
  ·exact au _ hq
 ·rcases List.mem_append.1 hp with h|h
  ·exact au _ h
  ·simp at h;subst h;exact av ..
def lsum(xs:LL):Int:=xs.foldl (fun s l=>s+l.2.2) 0
def ig(xs:LL){i:Nat}(h:i<xs.length):lsum (xs.take (i+1))=lsum (xs.take i)+xs[i]!.2.2:=by
 unfold lsum;rw[az h,cF,getElem!_of h];rfl
def mJ{xs:LL}(h:∀l∈xs,LotOk l):∀i,i≤xs.length→0≤lsum (xs.take i)∧lsum (xs.take i)≤(i:Int)*1099511627776:=by
 intro i;induction i with
 | zero=>intro _;simp[lsum]
 | succ i ih =>
  intro hi;obtain⟨h1,h2⟩:=ih ab;obtain⟨o1,o2,o3,o4,o5⟩:=h _ (aV (ab:i<xs.length));rw[ig xs ab];have:((i+1:Nat):Int)*1099511627776=(i:Int)*1099511627776+1099511627776:=ab
  rw[this];omega
def nR{L:LH}(ad:OA)(n c:Nat)(xs:LL)[Rds L ad Lot aG 3 xs](hn:n=xs.length)(hb:xs.length≤4096)(hx:∀l∈xs,LotOk l) :
  Tri Tryz.prog 55 #[ag ad n c] L (rtQ (ac (lsum xs)) L):=by
 refine Tri.bd ?_;refine Ks ?_;intros;refine G.loop (α:=Nat) (fun i=>i≤n) (fun i=>[(0,ag ad n c),(3,ac (lsum (xs.take i))),(6,ag ad n c),(7,ac n),(8,ac (i:Int))]) (fun _=>L) (fun i=>n - i) 0 (aw _) aC (Ent.refl _) ?_;intro i hi;by_cases a1:i<n
 case neg =>
  rw[aD (ab:xs.length≤i)];refine Ks ?_;intros;exact KX.en ⟨rfl,rfl⟩
 have a0:=mJ hx i ab;obtain⟨o1,o2,o3,o4,o5⟩:=hx _ (aV (ab:i<xs.length));have hs:=ig xs (ab:i<xs.length);have hm:(i:Int)*1099511627776≤4096*1099511627776:=fe ab ae;refine Ks ?_;intros;rw[aY];refine Ks ?_;intros;refine⟨i+1,ab,ab,?_,Ent.drop⟩;rw[hs,bh i];exact aC
def Ev.lenG{P:Program}{L:LH}{env:Env}{ty:TypeId}{κ α:Type}{t K E:TypeId}{z:Value}{x:Operand}{b:Nat}{kv:κ→Value}{enc:α→Value}{m:List (κ×α)}{R:LH}[ht:TyG P t K E z][hp:PickG L b κ α kv enc m R](hx:evE env x=some (.map (some b))) :
  Ev P L env (.call { callee:=.builtin .len,args:=#[x],argTypes:=#[t] }) ty (ac (m.length:Int)) :=
 Ev.mk (fun θ R _ w ea s _ _ _ _=>by
  obtain⟨es,a0,e1,e2,e3,e4,e5,s2⟩:=(s.perm (hp.perm.append_right R)).gmap_parts;have hb:=s2.own_heap;have a1:(getObj b).run P w=.ok (.map es a0) w:=by simp[getObj,Sem.run,hb]
  have a2:es.size=m.length:=by
   have:=congrArg List.length e1
   simpa using this
  simp[execOp,resolve,invoke,aL ea hx,builtin,Builtin.len_,run_underlying ht.under,a1,goInt,a2])
def Ev.z6{P:Program}{L:LH}{env:Env}{ty:TypeId}{t f off:Nat}{x:Operand}{cs:LV}{v:Value}{fs:Array Field}{fd:Field}(h1:P.underlying t=some (.struct fs))(h2:fs[f]? = some fd)(h3:fd.offset=off)(h4:∀w,(isAgg fd.type).run P w=.ok false w)
  (hx:evE env x=some (aU cs)) (hv:cs[off]? = some v):Ev P L env (.field t x f) ty v :=
 Ev.mk (fun θ R _ w ea s _ _ _ _=>by
  simp[execOp,aL ea hx,Instr.field,run_underlying h1,h2,h3,asAgg,part,h4,hv])
def cy(a:Int×Int):LV:=[ac a.1,ac a.2]
def kI(t:Int×Int):∀u∈cy t,u.oneCell' = true:=by simp[cy,Value.oneCell']
instance:EncC cy:=⟨kI⟩
abbrev tAm:Nat:=67
end
section
open Go.V
abbrev iF(l:List Int):Prop:=∀x∈l,0≤x∧x≤255
def Ke:∀m,m<256→m ||| 128=m % 128+128:=by decide +kernel
def JR:∀m,m<256→m &&& 127=m % 128:=by decide +kernel
def uv(n:Nat):List Int:=if h:n<128 then[(n:Int)] else((n % 128+128:Nat):Int)::uv (n / 128)
termination_by n
decreasing_by omega
def lp{n:Nat}(h:n<128):uv n=[(n:Int)]:=by rw[uv,dif_pos h]
def pL{n:Nat}(h:¬n<128):uv n=((n % 128+128:Nat):Int)::uv (n / 128):=by rw[uv,dif_neg h]
def lq(n:Nat):iF (uv n):=by
 induction n using Nat.strongRecOn with
 | _ n ih =>
  by_cases h:n<128
  ·rw[lp h];intro x hx;simp at hx;omega
  ·rw[pL h];intro x hx;rcases List.mem_cons.1 hx with rfl|hx
   ·omega
   ·exact ih (n / 128) ab x hx
def Jp(k:Nat):∀n,n<128 ^ (k+1)→(uv n).length≤k+1:=by
 induction k with
 | zero=>intro n h;rw[lp (by simpa using h)];simp
 | succ k ih =>
  intro n h;by_cases hn:n<128
  ·rw[lp hn];simp
  ·rw[pL hn]
   have h2:n / 128<128 ^ (k+1):=by
    rw[eM ae];rw[Nat.pow_succ] at h;exact h
   have:=ih (n / 128) h2
   simp only[aM];omega
def ie{n:Nat}(h:n<18446744073709551616):(uv n).length≤10:=Jp 9 n (by
 have:(128:Nat) ^ (9+1)=1180591620717411303424:=by decide
 omega)
def rdU:List Int→Nat→Nat→Nat×Int×List Int
 | [],_,_=>(0,3,[])
 | b::t,i,acc=>if(i=9∧1<b)∨(0<i∧b=0) then(0,2,t) else if b<128 then(acc+b.toNat % 128*128 ^ i,0,t) else rdU t (i+1) (acc+b.toNat % 128*128 ^ i)
def zz(n:Int):Nat:=if n<0 then 2*(-(n+1)).toNat+1 else 2*n.toNat
def unzz(u:Nat):Int:=if u % 2=1 then -((u / 2:Nat):Int) - 1 else((u / 2:Nat):Int)
def kJ{n:Int}(h0 : -9223372036854775808≤n)(h1:n≤9223372036854775807):zz n<18446744073709551616:=by unfold zz;split<;>omega
def Ie(n:Int):unzz (zz n)=n:=by
 unfold unzz zz;split
 ·split<;>omega
 ·split<;>omega
def nt{i:Nat}(h:i≤9):(128:Nat) ^ i≤9223372036854775808:=by
 have h1:(128:Nat) ^ i≤128 ^ 9:=Nat.pow_le_pow_right ae h;have h2:(128:Nat) ^ 9=9223372036854775808:=by decide
 omega
def GS{a c i:Nat}(ha:a<128 ^ i)(hc:c*128 ^ i<18446744073709551616):a ||| (c*2 ^ (7*i) % 18446744073709551616)=a+c*128 ^ i:=by
 have e:(2:Nat) ^ (7*i)=128 ^ i:=by rw[Nat.pow_mul]
 rw[e,ez hc,Nat.or_comm,nat_join (7*i) (c*128 ^ i) a (by rw[e];exact Nat.mul_mod_left _ _) (by rw[e];exact ha),Nat.add_comm]
def EK:∀(l:List Int) (i acc:Nat),iF l→i≤9→acc<128 ^ i→(rdU l i acc).1<18446744073709551616
 | [],_,_,_,_,_=>by simp[rdU]
 | b::t,i,acc,hb,hi,ha=>by
  have h1:=hb b cc;have hp:=nt hi;simp only[rdU];split
  ·simp
  ·rename_i a0;have hm:=dU b.toNat (show 0<128 by decide);have a1:b.toNat % 128*128 ^ i≤127*128 ^ i:=bj _ ab;by_cases h9:i=9
   ·subst h9
    have h2:b≤1:=by
     rcases Int.lt_or_le 1 b with h|h
     ·exact absurd (.inl ⟨rfl,h⟩) a0
     ·exact h
    have h3:b.toNat % 128*128 ^ 9≤1*128 ^ 9:=bj _ ab;have h4:(128:Nat) ^ 9=9223372036854775808:=by decide
    rw[if_pos ab];omega
   ·have a2:(128:Nat) ^ (i+1)≤9223372036854775808:=nt ab;have a3:(128:Nat) ^ (i+1)=128 ^ i*128:=Nat.pow_succ ..;split
    ·simp only[];omega
    ·exact EK t (i+1) _ (fun x hx=>hb x (au _ hx)) ab ab
def Ju(n:Nat):∀(rest:List Int) (i acc:Nat),i≤9→(0<i→n≠0)→n*128 ^ i<18446744073709551616→rdU (uv n++rest) i acc=(acc+n*128 ^ i,0,rest):=by
 induction n using Nat.strongRecOn with
 | _ n ih =>
  intro rest i acc hi h0 a3;have a2:0<(128:Nat) ^ i:=Nat.pow_pos ae;by_cases h:n<128
  ·rw[lp h]
   have a0:¬((i=9∧(1:Int)<(n:Int))∨(0<i∧(n:Int)=0)):=by
    rintro (⟨h9,h1⟩|⟨h9,h1⟩)
    ·subst h9;have h2:2*128 ^ 9≤n*128 ^ 9:=bj _ ab;have h3:(128:Nat) ^ 9=9223372036854775808:=by decide
     omega
    ·exact h0 h9 ab
   simp only[al,ak,rdU];rw[if_neg a0,if_pos ab,aY,ez h]
  ·rw[pL h]
   have a1:i≠9:=by
    intro h9;subst h9;have h2:128*128 ^ 9≤n*128 ^ 9:=bj _ ab;have h3:(128:Nat) ^ 9=9223372036854775808:=by decide
    omega
   have a0:¬((i=9∧(1:Int)<((n % 128+128:Nat):Int))∨(0<i∧((n % 128+128:Nat):Int)=0)):=by
    rintro (⟨h9,h1⟩|⟨h9,h1⟩)
    ·exact a1 h9
    ·omega
   simp only[al,rdU];rw[if_neg a0,if_neg ab,aY,show(n % 128+128) % 128=n % 128 by omega];have hp:(128:Nat) ^ (i+1)=128 ^ i*128:=Nat.pow_succ ..
   have hq:n / 128*128 ^ (i+1)+n % 128*128 ^ i=n*128 ^ i:=by
    rw[hp,ft (128 ^ i) 128,←Nat.mul_assoc,←dc];congr 1;omega
   rw[ih (n / 128) ab rest (i+1) _ ab (fun _=>by omega) ab];congr 1;omega
def Iu{n:Nat}(h:n<18446744073709551616)(rest:List Int):rdU (uv n++rest) 0 0=(n,0,rest):=by
 rw[Ju n rest 0 0 ab ab (by simpa using h)];simp
end
end Go.Proofs.YtlgpgjdggilkgaaGreatDoor
namespace Go.V
section gf
variable {P:Program}{N:Nat}{ops:Array Oper}{done done' : List Nat}{n:Nat}{pend:List PE}{env env' : Env}{L L' : LH}{K:Post}
def GF.conseq(hd:(dZ ops.size done == dZ ops.size done')=true)(he:EnvSub env env')(hL:Ent L L')(h:GF P N ops done' n pend env' L' K):GF P N ops done n pend env L K:=by
 have e:=eq_of_beq hd;intro hK hs a0 θ Y a w S i a1 a2;rw[e] at a0 ⊢;exact h hK hs a0 θ Y a w S (i.less he hL) a1 a2
def GF.ent(hL:Ent L L')(h:GF P N ops done n pend env L' K):GF P N ops done n pend env L K:=fun hK hs a0 θ Y a w S i a1 a2=>h hK hs a0 θ Y a w S (i.less (EnvSub.refl _) hL) a1 a2
