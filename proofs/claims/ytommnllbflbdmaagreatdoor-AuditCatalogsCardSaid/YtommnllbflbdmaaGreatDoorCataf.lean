/- Lemmas. -/
import Derived.Test.YtommnllbflbdmaaGreatDoorCatad
import Derived.Laws.BitsAllLaws
import Derived.Laws.DeepNot64
import Derived.Laws.IdiomStrings
import Derived.LoopNIn
set_option linter.all false
namespace Go.V
section
section fv
variable {P:Program}{N:Nat}{env:Env}{L:LH}{K:Post}{ty:TypeId}
def Ev.makeFunc{fn:Fn}{fs cs:Array Operand}{vs us:LV}(h1:fT env fs.toList=some vs)(h2:fT env cs.toList=some us):Ev P L env (.makeFunc fn fs cs) ty (.func fn vs.toArray us.toArray) :=
 Ev.mk (fun _ _ ρ w ea _ _ _ _ _=>by
  have e1:fs.map ρ=vs.toArray:=by apply Array.ext';simpa using ea.list fs.toList vs h1
  have e2:cs.map ρ=us.toArray:=by apply Array.ext';simpa using ea.list cs.toList us h2
  simp[execOp,Instr.makeFunc,e1,e2])
def Ef.n7{x:Operand}{f:FuncId}{xs:Array Operand}{ats:Array TypeId}{vs first cap:LV}{pre R' : LH}{post:Value→LH→Prop}
  (c:Tri P f (first++vs++cap).toArray pre post) (hx:evE env x=some (.func (.func f) first.toArray cap.toArray)) (hv:fT env xs.toList=some vs) (hL:Ent L (pre++R')) :
  Ef P L env (.call { callee:=.value x,args:=xs,argTypes:=ats }) ty (fun v L'=>∃L₁,post v L₁∧L' = L₁++R'):=by
 rintro θ R a w ⟨a2,a4,a3,pos,af,g⟩ next Q ha s rfl rfl hn
 have a0:xs.map a.eval=vs.toArray:=by
  apply Array.ext';simpa using ha.list xs.toList vs hv
 have a1:(execOp a.eval ⟨a2,.call { callee:=.value x,args:=xs,argTypes:=ats },a3,pos,af,g⟩).run P w=.ok (.enter f (first++vs++cap).toArray) w:=by
  simp[execOp,resolve,Deferred.ofValue,aP ha hx,invoke,a0];have:=c.enters (first++vs++cap).toArray w
  simpa using this
 rw[Oper.wp,a1,Oper.upon_enter];refine(c.calls θ (R'++R) w (by rw[←aF];exact hL θ R w s)).mono ?_;rintro e w' ⟨v,L',rfl,hp,s'⟩;exact hn v _ w' ⟨L',hp,rfl⟩ (by rw[aF];exact s')
def yz{l:Nat}{a0:Loop}{w:World}(h:w.heap[l]? = some (.loop a0)):(getObj l).run P w=.ok (.loop a0) w:=by simp[getObj,Sem.run,h]
def jk{l:Nat}{a0:Loop}{w:World}(h:w.heap[l]? = some (.loop a0)):(Instr.getLoop l).run P w=.ok a0 w:=by
 unfold Instr.getLoop;rw[Sem.run_bind,yz h];simp
def kq{l:Nat}{a0 rec' : Loop}{w:World}(h:w.heap[l]? = some (.loop a0)):(setObj l (.loop rec')).run P w=.ok () { w with heap:=w.heap.setIfInBounds l (.loop rec') }:=by simp[setObj,Sem.run,h]
def EfR(P:Program)(L:LH)(env:Env)(op:Op)(ty:TypeId)(post:Value→LH→Prop):Prop :=
 ∀r θ R a w o next Q,Agr env a.eval→Sat θ (L++R) w→o.op=op→o.type=ty→(∀v L' w',post v L'→Sat θ (L'++R) w'→next (a.put o.dst v) w')→Oper.wpIn (FW r) 0 P o a w next Q
def GO.efR{a0:Array Oper}{rest:List Oper}{d:Nat}{op:Op}{pos:String}{af:Array Edge}{post:Value→LH→Prop}(he:EfR P L env op ty post)(hd:d<N)
  (h:∀v L',post v L'→GO P N a0 rest ((d,v)::env) L' K):GO P N a0 (⟨some d,op,ty,pos,af,none⟩::rest) env L K:=by
 intro r θ Y a w hr i;refine wpListIn_plain rfl fun K' hK=>?_;obtain⟨M,ea,hm,s⟩:=i;exact he r θ _ a w _ K' _ ea.agr s rfl rfl fun v L' w' hp s'=>hK _ _ (h v L' hp r θ Y _ _ hr ⟨M,ea.put hd _,by rw[defers_put];exact hm,s'⟩)
def oe(tmps:Array Value)(ps:Array Tmp)(vs:Array Value):Array Value:=(ps.zip vs).foldl (fun t (p,v)=>t.setIfInBounds p v) tmps
structure YTri (P:Program) (l:Nat) (args:LV) (L:LH) (post:Value→LH→Prop):Prop where
 run:∀θ R w,Sat θ (L++R) w→∃rec,w.heap[l]? = some (.loop rec)∧args.length=rec.params.size∧∀r,RoundIn (FW r) 0 P l rec.fn (oe rec.tmps rec.params args.toArray) rec.assign rec.body w (fun e w'=>∃v L',e=.returned v∧post v L'∧Sat θ (L'++R) w')
def EfR.yield{x:Operand}{l:Nat}{xs:Array Operand}{ats:Array TypeId}{vs:LV}{pre R' : LH}{post:Value→LH→Prop}
  (c:YTri P l vs pre post) (hx:evE env x=some (.func (.yield l) #[] #[])) (hv:fT env xs.toList=some vs) (hL:Ent L (pre++R')) :
  EfR P L env (.call { callee:=.value x,args:=xs,argTypes:=ats }) ty (fun v L'=>∃L₁,post v L₁∧L' = L₁++R'):=by
 rintro r θ R a w ⟨a3,a6,a5,pos,af,g⟩ next Q ha s rfl rfl hn
 have a1:xs.map a.eval=vs.toArray:=by
  apply Array.ext';simpa using ha.list xs.toList vs hv
 obtain⟨a0,h1,h2,h3⟩:=c.run θ (R'++R) w (by rw[←aF];exact hL θ R w s)
 have a2:(execOp a.eval ⟨a3,.call { callee:=.value x,args:=xs,argTypes:=ats },a5,pos,af,g⟩).run P w=.ok (.round l a0.fn (oe a0.tmps a0.params vs.toArray) a0.assign a0.body) w:=by
  have a4:¬(vs.length≠a0.params.size):=fun h=>h h2
  have hy:(Instr.yield l vs.toArray).run P w=.ok (.round l a0.fn (oe a0.tmps a0.params vs.toArray) a0.assign a0.body) w:=by
   unfold Instr.yield;rw[Sem.run_bind,jk h1];simp only[Result.andThen_ok];rw[if_neg (by simpa using a4)];simp[oe]
  simp only[execOp,resolve,Deferred.ofValue,aP ha hx,invoke,a1];simpa using hy
 refine⟨fun _ _=>trivial,?_⟩;rw[Oper.semAt_eq _ _ _ (by intro c h;cases h),a2,Oper.uponIn_round];refine⟨(fun h=>by cases h),(h3 r).mono ?_⟩;rintro e w' ⟨v,L',rfl,hp,s'⟩;exact hn v _ w' ⟨L',hp,rfl⟩ (by rw[aF];exact s')
def Iter(P:Program)(gf:FuncId)(cap:LV)(a0:List (LV))(Lg:LH):Prop :=
 ∀(l:Nat) (J Jx:Nat→HP),(∀k (hk:k<a0.length),YTri P l a0[k] [J k] (fun v L'=>(v=.bool true∧L' = [J (k+1)])∨(v=.bool false∧L' = [Jx k]))) →
  Tri P gf (.func (.yield l) #[] #[]::cap).toArray (J 0::Lg) (fun _ L'=>L' = J a0.length::Lg∨∃k,L' = Jx k::Lg)
def penv(env:Env):List (Nat×Value)→Env
 | []=>env
 | p::r=>penv (p::env) r
def EnvOk.d8{ds a0 : List Deferred}:∀(l:List (Nat×Value)) {env:Env} {t:Array Value},(∀p∈l,p.1<N)→EnvOk N env ⟨t,ds⟩→EnvOk N (penv env l) ⟨l.foldl (fun t p=>t.setIfInBounds p.1 p.2) t,a0⟩
 | [],_,_,_,h=>⟨h.size,h.at_⟩
 | (p,v)::l,_,_,hp,h=>EnvOk.d8 l (fun q hq=>hp q (aw _ hq)) (h.put (hp (p,v) au) v)
def te(K:Post)(env:Env)(Lg:LH)(next:LH):Post:=fun e _ L'=>match e with
 | .normal=>Ent L' next
 | .ret=>K .ret env (L'++Lg)
 | .exit id=>K (.exit id) env (L'++Lg)
 | _=>False
def KX.round{K:Post}{env env' : Env}{Lg next L' : LH}(h:Ent L' next):te K env Lg next .normal env' L':=h
def KX.m5{K:Post}{env env' : Env}{Lg next L' : LH}(h:K .ret env (L'++Lg)):te K env Lg next .ret env' L':=h
def Sat.d8{θ:Th}{l:Nat}{a0 rec' : Loop}{L:LH}{w:World}(s:Sat θ (own l (.loop a0)::L) w):Sat θ (own l (.loop rec')::L) { w with heap:=w.heap.setIfInBounds l (.loop rec') }:=Sat.setMap s
def jy(K:Post)(env:Env)(Lg:LH):Code→LH→Prop:=fun c L'=>match c with
 | .ret=>K .ret env (L'++Lg)
 | .exit id=>K (.exit id) env (L'++Lg)
 | _=>False
def perm_front{A B C:LH}:(A++(B++C)).Perm (B++(A++C)):=by
 rw[←aF,←aF];exact List.perm_append_comm.append_right C
def su{l:Nat}{a0:Loop}{vs:LV}{I I' : LH}{env0:Env}{Lg:LH}(a8:a0.state=.ready)(b0:a0.pending=none)(a7:vs.length=a0.params.size)(b3:∀p∈a0.params,p<N)
  (ht:EnvOk N env ⟨a0.tmps,[]⟩) (h:G P N a0.assign (penv env (a0.params.toList.zip vs)) I (Post.seq (fun env' L'=>G P N a0.body env' L' (te K env0 Lg I')) (fun _ _ _=>False))) :
  YTri P l vs [cY (own l (.loop a0)::I)] (fun v L'=>(v=.bool true∧L' = [cY (own l (.loop a0)::I')])∨(v=.bool false∧L' = [hex fun x:Code×LH=>cY (dy (jy K env0 Lg x.1 x.2)::own l (.loop { a0 with state:=.done,pending:=some x.1 })::x.2)])):=by
 refine⟨fun θ R w s=>?_⟩;have s1:Sat θ (own l (.loop a0)::(I++R)) w:=Sat.ofStars (A:=own l (.loop a0)::I) s;refine⟨a0,s1.own_heap,a7,fun r=>?_⟩;refine roundIn_of_wpIn trivial ?_;show a0.assign.wpIn (FW (some l)) 0 P _ _ w
 have hz:oe a0.tmps a0.params vs.toArray=(a0.params.toList.zip vs).foldl (fun t p=>t.setIfInBounds p.1 p.2) a0.tmps:=by
  unfold oe;rw[←Array.foldl_toList];simp
 have b2:At N (penv env (a0.params.toList.zip vs)) I θ (own l (.loop a0)::R) ⟨oe a0.tmps a0.params vs.toArray,[]⟩ w:=by
  refine⟨[],?_,rfl,s1.perm List.perm_middle.symm⟩;rw[hz];exact EnvOk.d8 (t:=a0.tmps) _ (fun p hp=>b3 p.1 (by have:=List.of_mem_zip hp;simpa using this.1)) ht
 refine wpIn_mono (h (some l) θ (own l (.loop a0)::R) _ w (fun l' a6=>by cases a6;exact⟨a0,R,List.Perm.refl _⟩) b2) ?_;rintro e a' w' ⟨env',L',⟨M,ea,hm,s2⟩,hk⟩;cases e with
 | normal =>
  have s3:Sat θ (own l (.loop a0)::(L'++(mkH M++R))) w':=s2.perm (by
   rw[←aF,←aF L'];exact fZ)
  have a9:=s3.own_heap;have s4:=Sat.d8 (rec':={ a0 with state:=.busy }) s3;refine⟨{ w' with heap:=w'.heap.setIfInBounds l (.loop { a0 with state:=.busy }) },?_,?_⟩
  ·unfold Instr.beginRound;rw[Sem.run_bind,jk a9];simp only[Result.andThen_ok];rw[Sem.run_bind,kq a9];simp[a8]
  have a5:At N env' L' θ (own l (.loop { a0 with state:=.busy })::R) a' { w' with heap:=w'.heap.setIfInBounds l (.loop { a0 with state:=.busy }) }:=by
   refine⟨M,ea,hm,s4.perm ?_⟩;rw[←aF,←aF L'];exact List.perm_middle.symm
  refine wpIn_mono (hk (some l) θ (own l (.loop { a0 with state:=.busy })::R) a' _ (fun l' a6=>by cases a6;exact⟨_,R,List.Perm.refl _⟩) a5) ?_;rintro e2 a2 w2 ⟨b1,L2,⟨M2,b4,b5,s5⟩,a3⟩
  have s6:Sat θ (own l (.loop { a0 with state:=.busy })::(L2++(mkH M2++R))) w2:=s5.perm (by
   rw[←aF,←aF L2];exact fZ)
  have a4:=s6.own_heap
  have a1:∀{A:HP} {w:World},Sat θ (A::(L2++(mkH M2++R))) w→Sat θ (A::(L2++R)) w:=by
   intro A w s;have s' : Sat θ (mkH M2++(A::(L2++R))) w:=s.perm ((List.Perm.cons A perm_front).trans List.perm_middle.symm);exact Ent.nil (mkH M2) θ _ w s'
  cases e2 with
  | normal =>
   have s7:=Sat.d8 (rec':=a0) s6;refine⟨.bool true,{ w2 with heap:=w2.heap.setIfInBounds l (.loop a0) },?_,?_⟩
   ·unfold Instr.endRound;rw[Sem.run_bind,jk a4];simp only[Result.andThen_ok];rw[Sem.run_bind]
    have e:({ ({ a0 with state:=.busy }:Loop) with state:=if(none:Option Code).isNone then .ready else .done,pending:=none }:Loop)=a0:=by
     cases a0;simp only[] at a8 b0;subst a8 b0;rfl
    rw[e,kq a4];simp
   ·refine⟨.bool true,_,rfl,.inl ⟨rfl,rfl⟩,?_⟩;have s8:=a1 s7;have s9:Sat θ (I'++(own l (.loop a0)::R)) { w2 with heap:=w2.heap.setIfInBounds l (.loop a0) }:=a3 θ _ _ (s8.perm List.perm_middle.symm);exact Sat.d7 (A:=own l (.loop a0)::I') (s9.perm fZ)
  | ret =>
   have s7:=Sat.d8 (rec':={ a0 with state:=.done,pending:=some .ret }) s6;refine⟨.bool false,_,?_,⟨.bool false,_,rfl,.inr ⟨rfl,rfl⟩,Sat.e8 (f:=fun x:Code×LH=>cY (dy (jy K env0 Lg x.1 x.2)::own l (.loop { a0 with state:=.done,pending:=some x.1 })::x.2)) (.ret,L2) (Sat.d7 (A:=dy (jy K env0 Lg .ret L2)::own l (.loop { a0 with state:=.done,pending:=some .ret })::L2) (Sat.addPure (a1 s7) a3))⟩⟩;unfold Instr.endRound;rw[Sem.run_bind,jk a4];simp only[Result.andThen_ok];rw[Sem.run_bind];have e:({ ({ a0 with state:=.busy }:Loop) with state:=if(some Code.ret:Option Code).isNone then .ready else .done,pending:=some .ret }:Loop)={ a0 with state:=.done,pending:=some .ret }:=rfl;rw[e,kq a4];simp
  | exit id =>
   have s7:=Sat.d8 (rec':={ a0 with state:=.done,pending:=some (.exit id) }) s6;refine⟨.bool false,_,?_,⟨.bool false,_,rfl,.inr ⟨rfl,rfl⟩,Sat.e8 (f:=fun x:Code×LH=>cY (dy (jy K env0 Lg x.1 x.2)::own l (.loop { a0 with state:=.done,pending:=some x.1 })::x.2)) (.exit id,L2) (Sat.d7 (A:=dy (jy K env0 Lg (.exit id) L2)::own l (.loop { a0 with state:=.done,pending:=some (.exit id) })::L2) (Sat.addPure (a1 s7) a3))⟩⟩;unfold Instr.endRound;rw[Sem.run_bind,jk a4];simp only[Result.andThen_ok];rw[Sem.run_bind];have e:({ ({ a0 with state:=.busy }:Loop) with state:=if(some (Code.exit id):Option Code).isNone then .ready else .done,pending:=some (.exit id) }:Loop)={ a0 with state:=.done,pending:=some (.exit id) }:=rfl;rw[e,kq a4];simp
  | goto t=>exact a3.elim
  | panic c=>exact a3.elim
  | outgrown=>exact a3.elim
 | exit id=>exact hk.elim
 | goto t=>exact hk.elim
 | ret=>exact hk.elim
 | panic c=>exact hk.elim
 | outgrown=>exact hk.elim
def lR{l:Nat}{a0:Loop}{w:World}(h:w.heap[l]? = some (.loop a0))(hs:a0.state≠.busy):(Instr.endLoop l).run P w=.ok a0.pending { w with heap:=w.heap.setIfInBounds l (.loop { a0 with state:=.exhausted }) }:=by
 unfold Instr.endLoop;rw[Sem.run_bind,jk h];simp only[Result.andThen_ok]
 have hb:(a0.state == LoopState.busy)=false:=by
  cases hr:a0.state<;>first|rfl|exact absurd hr hs
 rw[hb];simp only[gq,if_false];rw[Sem.run_bind];simp only[Sem.run_pure];rw[kq h];simp
def lY{fn:FuncId}{tmps:Array Value}{ps:Array Tmp}{assign body:Code}{w:World} :
  (Instr.enterLoop fn tmps ps assign body none).run P w=.ok (w.heap.size+1,[{ target:=.collected w.heap.size,args:=#[] }]) ((w.alloc (.deferred (some []))).alloc (.loop { state:=.ready,pending:=none,fn,tmps,params:=ps,assign,body,defers:=w.heap.size })):=by
 unfold Instr.enterLoop;simp[go_sem]
def lX{fn:FuncId}{tmps:Array Value}{ps:Array Tmp}{assign body:Code}{w:World}{l:Nat}{a0:Loop}(h:w.heap[l]? = some (.loop a0)) :
  (Instr.enterLoop fn tmps ps assign body (some l)).run P w=.ok (w.heap.size,[]) (w.alloc (.loop { state:=.ready,pending:=none,fn,tmps,params:=ps,assign,body,defers:=a0.defers })):=by
 unfold Instr.enterLoop;simp only[];rw[Sem.run_bind,jk h];simp[go_sem]
def G.rangeFunc{g:Operand}{ps:Array Tmp}{assign body:Code}{gf:FuncId}{cap:LV}{a2:List (LV)}{Lg:LH}(it:Iter P gf cap a2 Lg)(hg:evE env g=some (.func (.func gf) #[] cap.toArray))
  (b2:Enters P gf) (b5:∀p∈ps,p<N) (a7:∀vs∈a2,vs.length=ps.size) (I:Nat→LH) (hl:Ent L (I 0++Lg))
  (a4:∀k (hk:k<a2.length),G P N assign (penv env (ps.toList.zip a2[k])) (I k) (Post.seq (fun env' L'=>G P N body env' L' (te K env Lg (I (k+1)))) (fun _ _ _=>False)))
  (a5:K .normal env (I a2.length++Lg)):G P N (.rangeFunc g ps assign body) env L K:=by
 intro r θ Y a w hr i;obtain⟨M,ea,hm,s⟩:=i;have s0:Sat θ (I 0++Lg++(mkH M++Y)) w:=hl θ _ w s;-- what is the same in both cases
 have a6:∀(fn:FuncId) (l D:Nat) (a0:List Nat) (w₁:World),(Instr.enterLoop fn a.tmps ps assign body r).run P w=.ok (l,mkD a0) w₁ →
   Sat θ (own l (.loop { state:=.ready,pending:=none,fn,tmps:=a.tmps,params:=ps,assign,body,defers:=D })::(mkH a0++(I 0++Lg++(mkH M++Y)))) w₁ →
   ∃(l:Nat) (a0:List Deferred) (w₁:World) (d:Deferred) (w₁' : World) (f:FuncId) (args:Array Value) (w₂:World),
   (Instr.enterLoop fn a.tmps ps assign body (FW r).round).run P w=.ok (l,a0) w₁ ∧
   (resolve a.eval (rangeCall g l) 0).run P w₁=.ok d w₁' ∧
   (∀f',Target.leads P w₁' d.target d.args=some f'→(FW r).fn f') ∧
   (invoke d.target d.args).run P w₁' = .ok (.enter f args) w₂ ∧
   ((FW r).depth.isSome=true→1≤0) ∧
   CallsIn (FW r) (0 - 1) P f args w₂ (rangePost (FW r) 0 P l (QK θ Y N K) { a with defers:=a0++a.defers }):=by
  intro fn l D a0 w₁ he s1;obtain⟨a1,a3⟩:∃a1:Loop,a1={ state:=.ready,pending:=none,fn,tmps:=a.tmps,params:=ps,assign,body,defers:=D }:=⟨_,rfl⟩;rw[←a3] at s1;have b0:a1.state=.ready:=by rw[a3]
  have a9:a1.pending=none:=by rw[a3]
  have hy:∀k (hk:k<a2.length),YTri P l a2[k] [cY (own l (.loop a1)::I k)] (fun v L'=>(v=.bool true∧L' = [cY (own l (.loop a1)::I (k+1))])∨(v=.bool false∧L' = [hex fun x:Code×LH=>cY (dy (jy K env Lg x.1 x.2)::own l (.loop { a1 with state:=.done,pending:=some x.1 })::x.2)])):=by
   intro k hk;refine su b0 a9 (by rw[a3];exact a7 _ (eO _)) (by rw[a3];exact b5) (env:=env) ?_ ?_
   ·rw[a3];exact⟨ea.size,ea.at_⟩
   ·rw[a3];exact a4 k hk
  have ht:=it l (fun k=>cY (own l (.loop a1)::I k)) (fun _=>hex fun x:Code×LH=>cY (dy (jy K env Lg x.1 x.2)::own l (.loop { a1 with state:=.done,pending:=some x.1 })::x.2)) hy;have b3:a.eval g=.func (.func gf) #[] cap.toArray:=aP ea.agr hg;refine⟨l,mkD a0,w₁,{ target:=.fn (.func gf) cap.toArray,args:=#[.func (.yield l) #[] #[]] },w₁,gf,(.func (.yield l) #[] #[]::cap).toArray,w₁,he,?_,fun _ _=>trivial,?_,(fun h=>by cases h),oN ?_⟩
  ·simp only[resolve,Deferred.ofValue,b3];simp[Act.eval]
  ·have:=b2 (.func (.yield l) #[] #[]::cap).toArray w₁
   simpa [invoke] using this
  have s2:Sat θ (cY (own l (.loop a1)::I 0)::Lg++(mkH a0++(mkH M++Y))) w₁:=by
   refine Sat.d7 (A:=own l (.loop a1)::I 0) (s1.perm ?_);simp only[ak];refine List.Perm.cons _ ?_;rw[aF];refine perm_front.trans ?_;refine List.Perm.append_left _ ?_;exact perm_front
  refine(ht.calls θ _ w₁ s2).mono ?_;rintro e w₂ ⟨v,L',rfl,b1,s3⟩;rcases b1 with rfl|⟨k,rfl⟩
  ·have s4:Sat θ (own l (.loop a1)::(I a2.length++(Lg++(mkH a0++(mkH M++Y))))) w₂:=Sat.ofStars (A:=own l (.loop a1)::I a2.length) s3;have hh:=s4.own_heap;refine⟨none,_,(by rw[←a9];exact lR hh (by rw[b0];simp)),?_⟩;have s5:=(Sat.d8 (rec':={ a1 with state:=.exhausted }) s4).tail;refine⟨env,I a2.length++Lg,⟨a0++M,⟨ea.size,ea.at_⟩,by simp[mkD,hm],?_⟩,a5⟩;have e:mkH (a0++M)++Y=mkH a0++(mkH M++Y):=by simp[mkH]
   rw[e,aF];exact s5
  ·obtain⟨⟨c,L₂⟩,s4⟩:=Sat.ofHex (L:=Lg++(mkH a0++(mkH M++Y))) s3;have s5:Sat θ (dy (jy K env Lg c L₂)::(own l (.loop { a1 with state:=.done,pending:=some c })::(L₂++(Lg++(mkH a0++(mkH M++Y)))))) w₂:=Sat.ofStars (A:=dy (jy K env Lg c L₂)::own l (.loop { a1 with state:=.done,pending:=some c })::L₂) s4;have hj:=s5.ofPure;have s6:=s5.tail;have hh:=s6.own_heap;have s7:=(Sat.d8 (rec':={ ({ a1 with state:=.done,pending:=some c }:Loop) with state:=.exhausted }) s6).tail;refine⟨some c,_,lR hh bH,?_⟩
   have a8:At N env (L₂++Lg) θ Y { a with defers:=mkD a0++a.defers } { w₂ with heap:=w₂.heap.setIfInBounds l (.loop { ({ a1 with state:=.done,pending:=some c }:Loop) with state:=.exhausted }) }:=by
    refine⟨a0++M,⟨ea.size,ea.at_⟩,by simp[mkD,hm],?_⟩;have e:mkH (a0++M)++Y=mkH a0++(mkH M++Y):=by simp[mkH]
    rw[e,aF];exact s7
   cases c with
   | ret=>exact wpIn_ret ⟨env,_,a8,hj⟩
   | exit id=>exact wpIn_exit ⟨env,_,a8,hj⟩
   | _=>exact hj.elim
 refine wpIn_rangeFunc fun fn _=>?_;cases r with
 | none =>
  have s1:=s0.alloc (o:=.deferred (some []));have s2:=s1.alloc (o:=.loop { state:=.ready,pending:=none,fn,tmps:=a.tmps,params:=ps,assign,body,defers:=w.heap.size });refine a6 fn (w.heap.size+1) w.heap.size [w.heap.size] _ lY ?_;rw[World.size_alloc] at s2;exact s2
 | some l =>
  obtain⟨a1,Y',hY⟩:=hr l rfl
  have b4:w.heap[l]? = some (.loop a1):=by
   have s1:Sat θ (own l (.loop a1)::(I 0++Lg++(mkH M++Y'))) w:=s0.perm (by
    have h1:(I 0++Lg++(mkH M++Y)).Perm (I 0++Lg++(mkH M++(own l (.loop a1)::Y'))):=(hY.append_left _).append_left _;refine h1.trans ?_;rw[←aF,←aF (I 0++Lg)];exact fZ)
   exact s1.own_heap
  exact a6 fn w.heap.size a1.defers [] _ (lX b4) s0.alloc
end fv
end
section
section
variable {P:Program}{env:Env}{L:LH}{ty:TypeId}
def Ev.bits{op:BinOp}{t yt:TypeId}{x y:Operand}{k:IntKind}{a b:Int}(ho:op=.and∨op=.or∨op=.xor)(hx:evE env x=some (.int k a))(hy:evE env y=some (.int k b)):Ev P L env (.binOp op t x y yt) ty (.int k (Go.bits op k a b)) :=
 Ev.mk (fun _ _ _ w ea _ _ _ _ _=>iz (aP ea hx) (aP ea hy) (by rcases ho with rfl|rfl|rfl<;>simp[go_sem]))
def Ev.C4{t yt:TypeId}{x y:Operand}{a b:Int}(hx:evE env x=some (.int .u64 a))(hy:evE env y=some (.int .u64 b))(h1:0≤a)(h2:a<18446744073709551616)(h3:0≤b)(h4:b<18446744073709551616):Ev P L env (.binOp .or t x y yt) ty (.int .u64 ((a.toNat ||| b.toNat:Nat):Int)):=by
 have:=Ev.bits (P:=P) (L:=L) (ty:=ty) (t:=t) (yt:=yt) (op:=.or) bH hx hy
 rwa [u64_or a b h1 h2 h3 h4] at this
def Ev.C3{t yt:TypeId}{x y:Operand}{a b:Int}(hx:evE env x=some (.int .u64 a))(hy:evE env y=some (.int .u64 b))(h1:0≤a)(h2:a<18446744073709551616)(h3:0≤b)(h4:b<18446744073709551616):Ev P L env (.binOp .and t x y yt) ty (.int .u64 ((a.toNat &&& b.toNat:Nat):Int)):=by
 have:=Ev.bits (P:=P) (L:=L) (ty:=ty) (t:=t) (yt:=yt) (op:=.and) bH hx hy
 rwa [u64_and a b h1 h2 h3 h4] at this
def Ev.shl{t yt:TypeId}{x y:Operand}{k k' : IntKind}{a b:Int}(hx:evE env x=some (.int k a))(hy:evE env y=some (.int k' b))(h0:0≤b):Ev P L env (.binOp .shl t x y yt) ty (.int k (k.wrap (a*2 ^ min b.toNat k.bits))) :=
 Ev.mk (fun _ _ _ w ea _ _ _ _ _=>iz (aP ea hx) (aP ea hy) (by
  have:¬b<0:=ab
  simp[binOp,Op.shift,this]))
def Ev.shr{t yt:TypeId}{x y:Operand}{k k' : IntKind}{a b:Int}(hx:evE env x=some (.int k a))(hy:evE env y=some (.int k' b))(h0:0≤b):Ev P L env (.binOp .shr t x y yt) ty (.int k (a.fdiv (2 ^ min b.toNat k.bits))) :=
 Ev.mk (fun _ _ _ w ea _ _ _ _ _=>iz (aP ea hx) (aP ea hy) (by
  have:¬b<0:=ab
  simp[binOp,Op.shift,this]))
def Ev.C2{t yt:TypeId}{x y:Operand}{a b:Int}(hx:evE env x=some (.int .u64 a))(hy:evE env y=some (.int .u64 b))(h0:0≤a)(h1:a≤18446744073709551615)(hb:0<b):Ev P L env (.binOp .quo t x y yt) ty (.int .u64 (a / b)) :=
 Ev.mk (fun _ _ _ w ea _ _ _ _ _=>iz (aP ea hx) (aP ea hy) (by
  have a0 : b≠0:=ab;have h2:=jx h0 (Int.le_of_lt hb);have h3:=Int.ediv_le_self b h0;simp[binOp,Op.intDiv,a0,Int.tdiv_eq_ediv_of_nonneg h0,IntWalk.u64_in _ (ab:0≤a / b∧a / b≤18446744073709551615)]))
def Ev.y7{t:TypeId}{x:Operand}{s:ByteArray}[ht:TyStr P t](hx:evE env x=some (.string s)):Ev P L env (.call { callee:=.builtin .len,args:=#[x],argTypes:=#[t] }) ty (ac (s.size:Int)) :=
 Ev.mk (fun _ _ _ w ea _ _ _ _ _=>by
  have h:=run_len_string (P:=P) w t ty s ht.under;simp[execOp,resolve,invoke,aP ea hx,builtin,h,goInt])
def cW(s:ByteArray):List Int:=s.data.toList.map fun b=>(b.toNat:Int)
def oz(s:ByteArray):(cW s).length=s.size:=by simp[cW]
end
end
section
section gf
variable {P:Program}{N:Nat}{ops:Array Oper}{done:List Nat}{n:Nat}{pend:List PE}{env:Env}{L:LH}{K:Post}
def GF(P:Program)(N:Nat)(a0:Array Oper)(done:List Nat)(n:Nat)(a1:List PE)(env:Env)(L:LH)(K:Post):Prop :=
 NoP K→Region.noSelect a0=true→Closed .any a0 (dN a0.size done) →
 ∀θ Y a w S,At N env L θ Y a w→mg P a1 S→(∀p∈S,p.2 w) →
  wpAnyP P .any a0 (QK θ Y N K) (dpB a0) n (dN a0.size done) S a w
def GF.plan(plan:List Stp)(hp:jD ops done plan=true)(hn:plan.length=n)(h:GP P N ops done plan pend env L K):GF P N ops done n pend env L K :=
 fun hK hs a0 θ Y a w S i a1 a2=>hn▸h hK hp hs a0 θ Y a w S i a1 a2
def G.f8{id:Nat}{l:List Oper}[hK:NoP K](hm:P.follows .mixedOrders=true)(hp:(Region.noSelect l.toArray && noDefer l.toArray)=true)(h:GF P N l.toArray [] l.toArray.size [] env L K):G P N (.region id l.toArray true) env L K:=by
 intro r θ Y a w hr i;simp only[ky] at hp;obtain⟨h3,h4⟩:=hp;refine wpIn_region_any hm (nU h4 (by rintro⟨a',w',env,L,_,h⟩;exact hK.out env L h) _ _ _ _ (wpAnyP.d7 (dep:=dpB l.toArray) _ _ [] _ _ ?_));obtain⟨M,ea,a0,s⟩:=i;exact h hK h3 (Closed.d7 _) θ Y a { w with drawn:=w.drawn+1 } [] ⟨M,ea,a0,s.drew⟩ (by intro p hp;cases hp) bH
def GF.e7{i d:Nat}{op:Op}{ty:TypeId}{pos:String}{af:Array Edge}{g:Option (Nat×Bool)}{v:Value}{a0 : List PE}(hi:ops[i]? = some ⟨some d,op,ty,pos,af,g⟩)(hd:d<N)
  (hr:((Region.ready .any ops (dN ops.size done)).contains i && Region.free .any ops (dN ops.size done) i)=true)
  (hy:∀θ R a w,EnvOk N env a→Sat θ (L++R) w→∃Si,YieldsIf P ops Si ⟨some d,op,ty,pos,af,g⟩ v a∧Si w∧∀S,mg P pend S→mg P a0 ((i,Si)::S))
  (h:GF P N ops (i::done) n a0 ((d,v)::env) L K):GF P N ops done (n+1) pend env L K:=by
 intro hK hs a2 θ Y a w S i0 a6 a3;simp only[ky,List.contains_iff_mem] at hr;obtain⟨h1,h2⟩:=hr;obtain⟨M,ea,a5,s⟩:=i0;obtain⟨Si,a7,a4,a8⟩:=hy θ _ a w ea s
 have a1:∀p∈(i,Si)::S,p.2 w:=fun p hp=>by
  rcases List.mem_cons.1 hp with rfl|hp
  ·exact a4
  ·exact a3 p hp
 refine wpAnyP.first hi (Region.noSelect_spec hs) (fun c a w q=>(yh hK c _ w q).elim) (fun j hj=>rH _ j i hj) _ _ S a w a2 (Region.free_spec hi h2) h1 a7 a4 a3 ?_;exact h hK hs (a2.set h1) θ Y (a.put (some d) v) w _ ⟨M,ea.put hd v,by rw[defers_put];exact a5,s⟩ (a8 S a6) a1
def GF.evP{i d:Nat}{op:Op}{ty:TypeId}{pos:String}{af:Array Edge}{v:Value}(hi:ops[i]? = some ⟨some d,op,ty,pos,af,none⟩)
  (hr:((Region.ready .any ops (dN ops.size done)).contains i && Region.free .any ops (dN ops.size done) i)=true) (he:Ev P [] env op ty v) (hd:d<N) (h:GF P N ops (i::done) n pend ((d,v)::env) L K):GF P N ops done (n+1) pend env L K:=by
 refine GF.e7 hi hd hr (fun θ R a w ea s=>⟨fun _=>True,.inl ⟨rfl,?_⟩,trivial,fun S hS p hp=>?_⟩) h
 ·intro w' _;exact he ⟨w'.tape,w'.os,w'.output,0⟩ [] a.eval w' _ ea.agr ⟨⟨rfl,rfl,rfl,az _⟩,Hp.emp,Hp.emp,Hp.d8 _,Hp.d7 _,Hp.d7 _,trivial⟩ rfl rfl
 ·rcases List.mem_cons.1 hp with rfl|hp
  ·exact .inl fun _=>trivial
  ·exact hS p hp
def GF.evL{i d:Nat}{op:Op}{ty:TypeId}{pos:String}{af:Array Edge}{v:Value}(hi:ops[i]? = some ⟨some d,op,ty,pos,af,none⟩)
  (hr:((Region.ready .any ops (dN ops.size done)).contains i && Region.free .any ops (dN ops.size done) i)=true) (he:Ev P L env op ty v) (hd:d<N) (h:GF P N ops (i::done) n (⟨i,op,ty,env,v⟩::pend) ((d,v)::env) L K):GF P N ops done (n+1) pend env L K:=by
 refine GF.e7 hi hd hr (fun θ R a w ea s=>⟨fun w'=>(execOp a.eval ⟨some d,op,ty,pos,af,none⟩).run P w' = .ok (.value v) w',.inl ⟨rfl,fun w' h=>h⟩,he θ R a.eval w _ ea.agr s rfl rfl,fun S hS p hp=>?_⟩) h;rcases List.mem_cons.1 hp with rfl|hp
 ·exact .inr ⟨_,au,rfl,a.eval,_,ea.agr,rfl,rfl,fun w h=>h⟩
 ·rcases hS p hp with h|⟨pe,h1,h2⟩
  ·exact .inl h
  ·exact .inr ⟨pe,aw _ h1,h2⟩
def GE(P:Program)(N:Nat)(a0:Array Oper)(done:List Nat)(j n:Nat)(a1:List PE)(env:Env)(L:LH)(K:Post):Prop :=
 NoP K→Region.noSelect a0=true→Closed .any a0 (dN a0.size done)→j∈Region.ready .any a0 (dN a0.size done) →
 ∀θ Y a w S,At N env L θ Y a w→mg P a1 S→(∀p∈S,p.2 w) →
  wpOp P a0 (QK θ Y N K) j (fun a' w'=>(∀p∈kp (dpB a0) j S,p.2 w')∧wpAnyP P .any a0 (QK θ Y N K) (dpB a0) n ((dN a0.size done).setIfInBounds j true) (kp (dpB a0) j S) a' w') a w
def GF.d7(i j:Nat)(hr:(Region.ready .any ops (dN ops.size done) == [i,j])=true)(h1:GE P N ops done i n pend env L K)(h2:GE P N ops done j n pend env L K):GF P N ops done (n+1) pend env L K:=by
 intro hK hs a2 θ Y a w S i0 a3 a4;have a1:=eq_of_beq hr;refine⟨fun h0=>(by rw[h0] at a1;cases a1),fun k hk=>?_⟩;have a0:=hk;rw[a1] at a0;rcases List.mem_cons.1 a0 with rfl|a0
 ·exact h1 hK hs a2 hk θ Y a w S i0 a3 a4
 ·obtain rfl:=List.mem_singleton.1 a0;exact h2 hK hs a2 hk θ Y a w S i0 a3 a4
def GE.ef{j d:Nat}{op:Op}{ty:TypeId}{pos:String}{af:Array Edge}{post:Value→LH→Prop}(hi:ops[j]? = some ⟨some d,op,ty,pos,af,none⟩)(he:Ef P L env op ty post)(hd:d<N)
  (h:∀v L',post v L'→(∀pe∈pend,Ev P L' pe.env pe.op pe.ty pe.v)∧GF P N ops (j::done) n pend ((d,v)::env) L' K):GE P N ops done j n pend env L K:=by
 intro hK hs a2 a3 θ Y a w S i0 a6 a8;obtain⟨M,ea,a4,s⟩:=i0;unfold wpOp;have hw:Region.wanted ⟨some d,op,ty,pos,af,none⟩ (yielded ops a.tmps)=true:=rfl;simp only[hi,hw,if_true];refine .inl (he θ _ a w _ _ _ ea.agr s rfl rfl fun v L' w' a0 s'=>?_);obtain⟨k1,k3⟩:=h v L' a0
 have a1:∀p∈kp (dpB ops) j S,p.2 w'∧((∀w,p.2 w)∨∃pe∈pend,pe.idx=p.1∧∃ρ o,Agr pe.env ρ∧o.op=pe.op∧o.type=pe.ty∧∀w,(execOp ρ o).run P w=.ok (.value pe.v) w→p.2 w):=by
  intro p hp;obtain⟨a5,a7⟩:=List.mem_filter.1 hp;rcases a6 p a5 with h|⟨pe,h1,h2,ρ,o,h4,h5,h6,h7⟩
  ·exact⟨h w',.inl h⟩
  ·exact⟨h7 w' (k1 pe h1 θ _ ρ w' o h4 s' h5 h6),.inr ⟨pe,h1,h2,ρ,o,h4,h5,h6,h7⟩⟩
 exact⟨fun p hp=>(a1 p hp).1,k3 hK hs (a2.set a3) θ Y _ w' _ ⟨M,ea.put hd v,by rw[defers_put];exact a4,s'⟩ (fun p hp=>(a1 p hp).2) (fun p hp=>(a1 p hp).1)⟩
end gf
end
section
section closed
variable {P:Program}{N:Nat}{env:Env}{L:LH}{K:Post}
def GR(P:Program)(N:Nat)(c:Code):Nat→Env→LH→Post→Prop
 | 0,_,_,_=>False
 | m+1,env,L,K=>G P N c env L (K.seq fun env' L'=>GR P N c m env' L' K)
def GR.step{c:Code}{m:Nat}(h:G P N c env L (K.seq fun env' L'=>GR P N c m env' L' K)):GR P N c (m+1) env L K:=h
def G.d9{c:Code}(m:Nat)(h:GR P N c m env L K):G P N (.loop c) env L K:=by
 intro r θ Y a w hr i;refine wpIn_loop_rounds m ?_;induction m generalizing env L a w with
 | zero=>exact h.elim
 | succ m ih =>
  rw[roundsIn_succ];refine wpIn_mono (h r θ Y a w hr i) ?_;rintro ex a' w' ⟨env',L',i',hk⟩;cases ex with
  | normal=>exact ih hk a' w' i'
  | exit id=>exact⟨env',L',i',hk⟩
  | goto l=>exact⟨env',L',i',hk⟩
  | ret=>exact⟨env',L',i',hk⟩
  | panic ch=>exact⟨env',L',i',hk⟩
  | outgrown=>exact⟨env',L',i',hk⟩
class FnOf (P:Program) (f:FuncId) (N:outParam Nat) (c:outParam Code) (rs:outParam (List ResultVar)):Prop where
 enters:Enters P f
 fn:∃fn:Func,P.funcs[f]? = some fn∧fn.body=some c∧fn.results=rs.toArray∧fn.ntmps=N
def Tri.inPlace{f:FuncId}{N:Nat}{c:Code}{rs:List ResultVar}{args:LV}{post:Value→LH→Prop}[h:FnOf P f N c rs](hN:args.length≤N)(hg:G P N c (env0 args 0) L (Ends P N rs post)):Tri P f args.toArray L post:=by
 obtain⟨fn,h1,h2,h3,h4⟩:=h.fn;exact Tri.body N h.enters h1 h2 h3 h4 hN hg
