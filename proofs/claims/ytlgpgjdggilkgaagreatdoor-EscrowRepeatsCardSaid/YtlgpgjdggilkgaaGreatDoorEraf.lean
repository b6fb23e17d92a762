/- Lemmas. -/
import Derived.Test.YtlgpgjdggilkgaaGreatDoorErae
import Derived.Laws.BitsAllLaws
import Derived.Laws.DeepNot64
import Derived.Laws.IdiomStrings
import Derived.LoopNIn
set_option linter.all false
namespace Go.V
section
section fv
variable {P:Program}{N:Nat}{env:Env}{L:LH}{Ν:E1}{ty:TypeId}
def O.makeFunc{fn:Fn}{fs cs:Array Operand}{vs us:LV}(J:eG env fs.toList=some vs)(U:eG env cs.toList=some us):O P L env (.makeFunc fn fs cs) ty (.func fn vs.toArray us.toArray) :=
 O.mk (λ_ _ ρ w ea _ _ _ _ _=>by
  have e1:fs.map ρ=vs.toArray:=by apply Array.ext';simpa using ea.list fs.toList vs J
  have e2:cs.map ρ=us.toArray:=by apply Array.ext';simpa using ea.list cs.toList us U
  simp[execOp,Instr.makeFunc,e1,e2])
def Ef.l6{x:Operand}{f:FuncId}{D:Array Operand}{ats:Array TypeId}{vs first cap:LV}{pre R' : LH}{post:Value->LH->Prop}
  (c:Λ P f (first++vs++cap).toArray pre post) (K:χ env x=some (.func (.func f) first.toArray cap.toArray)) (hv:eG env D.toList=some vs) (hL:A L (pre++R')) :
  Ef P L env (.call { callee:=.value x,args:=D,argTypes:=ats }) ty (λv Y=>∃L₁,post v L₁/\Y = L₁++R'):=by
 rintro θ Α a w ⟨a2,a4,a3,pos,af,g⟩ next F8 ha s rfl rfl hn
 have r:D.map a.eval=vs.toArray:=by
  apply Array.ext';simpa using ha.list D.toList vs hv
 have I:(execOp a.eval ⟨a2,.call { callee:=.value x,args:=D,argTypes:=ats },a3,pos,af,g⟩).run P w=.ok (.enter f (first++vs++cap).toArray) w:=by
  simp[execOp,resolve,Deferred.ofValue,aH ha K,invoke,r];have:=c.enters (first++vs++cap).toArray w
  simpa using this
 rw[Oper.wp,I,Oper.upon_enter];refine(c.calls θ (R'++Α) w (by rw[<-ax];exact hL θ Α w s)).mono ?_;rintro e ab ⟨v,Y,rfl,hp,s'⟩;exact hn v _ ab ⟨Y,hp,rfl⟩ (by rw[ax];exact s')
def xB{l:Nat}{r:Loop}{w:World}(h:w.heap[l]? = some (.loop r)):(getObj l).run P w=.ok (.loop r) w:=by simp[getObj,Sem.run,h]
def ij{l:Nat}{r:Loop}{w:World}(h:w.heap[l]? = some (.loop r)):(Instr.getLoop l).run P w=.ok r w:=by
 unfold Instr.getLoop;rw[Sem.run_bind,xB h];simp
def jl{l:Nat}{r L6 : Loop}{w:World}(h:w.heap[l]? = some (.loop r)):(setObj l (.loop L6)).run P w=.ok () { w with heap:=w.heap.setIfInBounds l (.loop L6) }:=by simp[setObj,Sem.run,h]
def A8(P:Program)(L:LH)(env:Env)(op:Op)(ty:TypeId)(post:Value->LH->Prop):Prop :=
 ∀Θ θ Α a w o next F8,Lv env a.eval->Sat θ (L++Α) w->o.op=op->o.type=ty->(∀v Y ab,post v Y->Sat θ (Y++Α) ab->next (a.put o.dst v) ab)->Oper.wpIn (FW Θ) 0 P o a w next F8
def R.OG{r:Array Oper}{ic:List Oper}{Ξ:Nat}{op:Op}{pos:String}{af:Array Edge}{post:Value->LH->Prop}(he:A8 P L env op ty post)(hd:Ξ<N)
  (h:∀v Y,post v Y->R P N r ic ((Ξ,v)::env) Y Ν):R P N r (⟨some Ξ,op,ty,pos,af,none⟩::ic) env L Ν:=by
 intro Θ θ η a w hr i;refine wpListIn_plain rfl λK' hK=>?_;obtain⟨ξ,ea,hm,s⟩:=i;exact he Θ θ _ a w _ K' _ ea.KF s rfl rfl λv Y ab hp s'=>hK _ _ (h v Y hp Θ θ η _ _ hr ⟨ξ,ea.put hd _,by rw[Oz];exact hm,s'⟩)
def nm(tmps:Array Value)(ps:Array Tmp)(vs:Array Value):Array Value:=(ps.zip vs).foldl (λt (p,v)=>t.setIfInBounds p v) tmps
structure Nt (P:Program) (l:Nat) (args:LV) (L:LH) (post:Value->LH->Prop):Prop where
 run:∀θ Α w,Sat θ (L++Α) w->∃rec,w.heap[l]? = some (.loop rec)/\args.length=rec.params.size/\∀Θ,RoundIn (FW Θ) 0 P l rec.fn (nm rec.tmps rec.params args.toArray) rec.assign rec.body w (λe ab=>∃v Y,e=.returned v/\post v Y/\Sat θ (Y++Α) ab)
def A8.yield{x:Operand}{l:Nat}{D:Array Operand}{ats:Array TypeId}{vs:LV}{pre R' : LH}{post:Value->LH->Prop}
  (c:Nt P l vs pre post) (K:χ env x=some (.func (.yield l) #[] #[])) (hv:eG env D.toList=some vs) (hL:A L (pre++R')) :
  A8 P L env (.call { callee:=.value x,args:=D,argTypes:=ats }) ty (λv Y=>∃L₁,post v L₁/\Y = L₁++R'):=by
 rintro Θ θ Α a w ⟨a3,a6,a5,pos,af,g⟩ next F8 ha s rfl rfl hn
 have I:D.map a.eval=vs.toArray:=by
  apply Array.ext';simpa using ha.list D.toList vs hv
 obtain⟨r,J,U,h3⟩:=c.run θ (R'++Α) w (by rw[<-ax];exact hL θ Α w s)
 have a2:(execOp a.eval ⟨a3,.call { callee:=.value x,args:=D,argTypes:=ats },a5,pos,af,g⟩).run P w=.ok (.round l r.fn (nm r.tmps r.params vs.toArray) r.assign r.body) w:=by
  have a4:¬(vs.length≠r.params.size):=λh=>h U
  have Z:(Instr.yield l vs.toArray).run P w=.ok (.round l r.fn (nm r.tmps r.params vs.toArray) r.assign r.body) w:=by
   unfold Instr.yield;rw[Sem.run_bind,ij J];simp only[Result.andThen_ok];rw[Ω (by simpa using a4)];simp[nm]
  simp only[execOp,resolve,Deferred.ofValue,aH ha K,invoke,I];simpa using Z
 refine⟨λ_ _=>trivial,?_⟩;rw[Oper.semAt_eq _ _ _ (by intro c h;cases h),a2,Oper.uponIn_round];refine⟨(λh=>by cases h),(h3 Θ).mono ?_⟩;rintro e ab ⟨v,Y,rfl,hp,s'⟩;exact hn v _ ab ⟨Y,hp,rfl⟩ (by rw[ax];exact s')
def Iter(P:Program)(gf:FuncId)(cap:LV)(r:List (LV))(Lg:LH):Prop :=
 ∀(l:Nat) (Jj Jx:Nat->HP),(∀k (hk:k<r.length),Nt P l r[k] [Jj k] (λv Y=>(v=.bool true/\Y = [Jj (k+1)])\/(v=.bool false/\Y = [Jx k]))) ->
  Λ P gf (.func (.yield l) #[] #[]::cap).toArray (Jj 0::Lg) (λ_ Y=>Y = Jj r.length::Lg\/∃k,Y = Jx k::Lg)
def OH(env:Env):List (Nat×Value)->Env
 | []=>env
 | p::Θ=>OH (p::env) Θ
def JI.a8{ds r : List Deferred}:∀(l:List (Nat×Value)) {env:Env} {t:Array Value},(∀p∈l,p.1<N)->JI N env ⟨t,ds⟩->JI N (OH env l) ⟨l.foldl (λt p=>t.setIfInBounds p.1 p.2) t,r⟩
 | [],_,_,_,h=>⟨h.size,h.at_⟩
 | (p,v)::l,_,_,hp,h=>JI.a8 l (λq hq=>hp q (aB _ hq)) (h.put (hp (p,v) az) v)
def rP(Ν:E1)(env:Env)(Lg:LH)(next:LH):E1:=λe _ Y=>match e with
 | .normal=>A Y next
 | .ret=>Ν .ret env (Y++Lg)
 | .exit F=>Ν (.exit F) env (Y++Lg)
 | _=>False
def KX.round{Ν:E1}{env r : Env}{Lg next Y : LH}(h:A Y next):rP Ν env Lg next .normal r Y:=h
def Sat.c7{θ:Th}{l:Nat}{r L6 : Loop}{L:LH}{w:World}(s:Sat θ (h1 l (.loop r)::L) w):Sat θ (h1 l (.loop L6)::L) { w with heap:=w.heap.setIfInBounds l (.loop L6) }:=Sat.Nr s
def gB(Ν:E1)(env:Env)(Lg:LH):Code->LH->Prop:=λc Y=>match c with
 | .ret=>Ν .ret env (Y++Lg)
 | .exit F=>Ν (.exit F) env (Y++Lg)
 | _=>False
def OI{Μ cq C:LH}:(Μ++(cq++C)).Perm (cq++(Μ++C)):=by
 rw[<-ax,<-ax];exact List.perm_append_comm.append_right C
def nr{l:Nat}{r:Loop}{vs:LV}{E5 I' : LH}{Kr:Env}{Lg:LH}(b0:r.state=.ready)(b2:r.pending=none)(a9:vs.length=r.params.size)(b5:∀p∈r.params,p<N)
  (ht:JI N env ⟨r.tmps,[]⟩) (h:Δ P N r.assign (OH env (r.params.toList.zip vs)) E5 (E1.seq (λa3 Y=>Δ P N r.body a3 Y (rP Ν Kr Lg I')) (λ_ _ _=>False))) :
  Nt P l vs [bW (h1 l (.loop r)::E5)] (λv Y=>(v=.bool true/\Y = [bW (h1 l (.loop r)::I')])\/(v=.bool false/\Y = [hex λx:Code×LH=>bW (dp (gB Ν Kr Lg x.1 x.2)::h1 l (.loop { r with state:=.done,pending:=some x.1 })::x.2)])):=by
 refine⟨λθ Α w s=>?_⟩;have s1:Sat θ (h1 l (.loop r)::(E5++Α)) w:=Sat.KY (Μ:=h1 l (.loop r)::E5) s;refine⟨r,s1.IN,a9,λΘ=>?_⟩;refine roundIn_of_wpIn trivial ?_;show r.assign.wpIn (FW (some l)) 0 P _ _ w
 have hz:nm r.tmps r.params vs.toArray=(r.params.toList.zip vs).foldl (λt p=>t.setIfInBounds p.1 p.2) r.tmps:=by
  unfold nm;rw[<-Array.foldl_toList];simp
 have b4:At N (OH env (r.params.toList.zip vs)) E5 θ (h1 l (.loop r)::Α) ⟨nm r.tmps r.params vs.toArray,[]⟩ w:=by
  refine⟨[],?_,rfl,s1.perm List.perm_middle.symm⟩;rw[hz];exact JI.a8 (t:=r.tmps) _ (λp hp=>b5 p.1 (by have:=List.of_mem_zip hp;simpa using this.1)) ht
 refine wpIn_mono (h (some l) θ (h1 l (.loop r)::Α) _ w (λl' a7=>by cases a7;exact⟨r,Α,List.Perm.refl _⟩) b4) ?_;rintro e a' ab ⟨a3,Y,⟨ξ,ea,hm,s2⟩,hk⟩;cases e with
 | normal =>
  have s3:Sat θ (h1 l (.loop r)::(Y++(C6 ξ++Α))) ab:=s2.perm (by
   rw[<-ax,<-ax Y];exact dq)
  have b1:=s3.IN;have s4:=Sat.c7 (L6:={ r with state:=.busy }) s3;refine⟨{ ab with heap:=ab.heap.setIfInBounds l (.loop { r with state:=.busy }) },?_,?_⟩
  .unfold Instr.beginRound;rw[Sem.run_bind,ij b1];simp only[Result.andThen_ok];rw[Sem.run_bind,jl b1];simp[b0]
  have a6:At N a3 Y θ (h1 l (.loop { r with state:=.busy })::Α) a' { ab with heap:=ab.heap.setIfInBounds l (.loop { r with state:=.busy }) }:=by
   refine⟨ξ,ea,hm,s4.perm ?_⟩;rw[<-ax,<-ax Y];exact List.perm_middle.symm
  refine wpIn_mono (hk (some l) θ (h1 l (.loop { r with state:=.busy })::Α) a' _ (λl' a7=>by cases a7;exact⟨_,Α,List.Perm.refl _⟩) a6) ?_;rintro e2 a2 w2 ⟨b3,L2,⟨M2,b6,b7,s5⟩,a4⟩
  have s6:Sat θ (h1 l (.loop { r with state:=.busy })::(L2++(C6 M2++Α))) w2:=s5.perm (by
   rw[<-ax,<-ax L2];exact dq)
  have a5:=s6.IN
  have I:∀{Μ:HP} {w:World},Sat θ (Μ::(L2++(C6 M2++Α))) w->Sat θ (Μ::(L2++Α)) w:=by
   intro Μ w s;have s' : Sat θ (C6 M2++(Μ::(L2++Α))) w:=s.perm ((List.Perm.cons Μ OI).trans List.perm_middle.symm);exact A.nil (C6 M2) θ _ w s'
  cases e2 with
  | normal =>
   have s7:=Sat.c7 (L6:=r) s6;refine⟨.bool true,{ w2 with heap:=w2.heap.setIfInBounds l (.loop r) },?_,?_⟩
   .unfold Instr.endRound;rw[Sem.run_bind,ij a5];simp only[Result.andThen_ok];rw[Sem.run_bind]
    have e:({ ({ r with state:=.busy }:Loop) with state:=if(none:Option Code).isNone then .ready else .done,pending:=none }:Loop)=r:=by
     cases r;simp only[] at b0 b2;subst b0 b2;rfl
    rw[e,jl a5];simp
   .refine⟨.bool true,_,rfl,.inl ⟨rfl,rfl⟩,?_⟩;have s8:=I s7;have s9:Sat θ (I'++(h1 l (.loop r)::Α)) { w2 with heap:=w2.heap.setIfInBounds l (.loop r) }:=a4 θ _ _ (s8.perm List.perm_middle.symm);exact Sat.a8 (Μ:=h1 l (.loop r)::I') (s9.perm dq)
  | ret =>
   have s7:=Sat.c7 (L6:={ r with state:=.done,pending:=some .ret }) s6;refine⟨.bool false,_,?_,⟨.bool false,_,rfl,.inr ⟨rfl,rfl⟩,Sat.c9 (f:=λx:Code×LH=>bW (dp (gB Ν Kr Lg x.1 x.2)::h1 l (.loop { r with state:=.done,pending:=some x.1 })::x.2)) (.ret,L2) (Sat.a8 (Μ:=dp (gB Ν Kr Lg .ret L2)::h1 l (.loop { r with state:=.done,pending:=some .ret })::L2) (Sat.Ox (I s7) a4))⟩⟩;unfold Instr.endRound;rw[Sem.run_bind,ij a5];simp only[Result.andThen_ok];rw[Sem.run_bind];have e:({ ({ r with state:=.busy }:Loop) with state:=if(some Code.ret:Option Code).isNone then .ready else .done,pending:=some .ret }:Loop)={ r with state:=.done,pending:=some .ret }:=rfl;rw[e,jl a5];simp
  | exit F =>
   have s7:=Sat.c7 (L6:={ r with state:=.done,pending:=some (.exit F) }) s6;refine⟨.bool false,_,?_,⟨.bool false,_,rfl,.inr ⟨rfl,rfl⟩,Sat.c9 (f:=λx:Code×LH=>bW (dp (gB Ν Kr Lg x.1 x.2)::h1 l (.loop { r with state:=.done,pending:=some x.1 })::x.2)) (.exit F,L2) (Sat.a8 (Μ:=dp (gB Ν Kr Lg (.exit F) L2)::h1 l (.loop { r with state:=.done,pending:=some (.exit F) })::L2) (Sat.Ox (I s7) a4))⟩⟩;unfold Instr.endRound;rw[Sem.run_bind,ij a5];simp only[Result.andThen_ok];rw[Sem.run_bind];have e:({ ({ r with state:=.busy }:Loop) with state:=if(some (Code.exit F):Option Code).isNone then .ready else .done,pending:=some (.exit F) }:Loop)={ r with state:=.done,pending:=some (.exit F) }:=rfl;rw[e,jl a5];simp
  | goto t=>exact a4.elim
  | panic c=>exact a4.elim
  | outgrown=>exact a4.elim
 | exit F=>exact hk.elim
 | goto t=>exact hk.elim
 | ret=>exact hk.elim
 | panic c=>exact hk.elim
 | outgrown=>exact hk.elim
def iK{l:Nat}{r:Loop}{w:World}(h:w.heap[l]? = some (.loop r))(hs:r.state≠.busy):(Instr.endLoop l).run P w=.ok r.pending { w with heap:=w.heap.setIfInBounds l (.loop { r with state:=.exhausted }) }:=by
 unfold Instr.endLoop;rw[Sem.run_bind,ij h];simp only[Result.andThen_ok]
 have hb:(r.state == LoopState.busy)=false:=by
  cases hr:r.state<;>first|rfl|exact iW hr hs
 rw[hb];simp only[dJ,if_false];rw[Sem.run_bind];simp only[Sem.run_pure];rw[jl h];simp
def iR{fn:FuncId}{tmps:Array Value}{ps:Array Tmp}{assign body:Code}{w:World} :
  (Instr.enterLoop fn tmps ps assign body none).run P w=.ok (w.heap.size+1,[{ target:=.collected w.heap.size,args:=#[] }]) ((w.alloc (.deferred (some []))).alloc (.loop { state:=.ready,pending:=none,fn,tmps,params:=ps,assign,body,defers:=w.heap.size })):=by
 unfold Instr.enterLoop;simp[go_sem]
def iQ{fn:FuncId}{tmps:Array Value}{ps:Array Tmp}{assign body:Code}{w:World}{l:Nat}{r:Loop}(h:w.heap[l]? = some (.loop r)) :
  (Instr.enterLoop fn tmps ps assign body (some l)).run P w=.ok (w.heap.size,[]) (w.alloc (.loop { state:=.ready,pending:=none,fn,tmps,params:=ps,assign,body,defers:=r.defers })):=by
 unfold Instr.enterLoop;simp only[];rw[Sem.run_bind,ij h];simp[go_sem]
def Δ.rangeFunc{g:Operand}{ps:Array Tmp}{assign body:Code}{gf:FuncId}{cap:LV}{a2:List (LV)}{Lg:LH}(it:Iter P gf cap a2 Lg)(hg:χ env g=some (.func (.func gf) #[] cap.toArray))
  (b4:Enters P gf) (b7:∀p∈ps,p<N) (a9:∀vs∈a2,vs.length=ps.size) (E5:Nat->LH) (hl:A L (E5 0++Lg))
  (a4:∀k (hk:k<a2.length),Δ P N assign (OH env (ps.toList.zip a2[k])) (E5 k) (E1.seq (λa7 Y=>Δ P N body a7 Y (rP Ν env Lg (E5 (k+1)))) (λ_ _ _=>False)))
  (a5:Ν .normal env (E5 a2.length++Lg)):Δ P N (.rangeFunc g ps assign body) env L Ν:=by
 intro Θ θ η a w hr i;obtain⟨ξ,ea,hm,s⟩:=i;have s0:Sat θ (E5 0++Lg++(C6 ξ++η)) w:=hl θ _ w s;-- what is Qh same in both cases
 have a6:∀(fn:FuncId) (l F0:Nat) (r:List Nat) (w₁:World),(Instr.enterLoop fn a.tmps ps assign body Θ).run P w=.ok (l,Lj r) w₁ ->
   Sat θ (h1 l (.loop { state:=.ready,pending:=none,fn,tmps:=a.tmps,params:=ps,assign,body,defers:=F0 })::(C6 r++(E5 0++Lg++(C6 ξ++η)))) w₁ ->
   ∃(l:Nat) (r:List Deferred) (w₁:World) (Ξ:Deferred) (w₁' : World) (f:FuncId) (args:Array Value) (w₂:World),
   (Instr.enterLoop fn a.tmps ps assign body (FW Θ).round).run P w=.ok (l,r) w₁ /\
   (resolve a.eval (rangeCall g l) 0).run P w₁=.ok Ξ w₁' /\
   (∀f',Target.leads P w₁' Ξ.target Ξ.args=some f'->(FW Θ).fn f') /\
   (invoke Ξ.target Ξ.args).run P w₁' = .ok (.enter f args) w₂ /\
   ((FW Θ).depth.isSome=true->1<=0) /\
   CallsIn (FW Θ) (0 - 1) P f args w₂ (rangePost (FW Θ) 0 P l (QK θ η N Ν) { a with defers:=r++a.defers }):=by
  intro fn l F0 r w₁ he s1;obtain⟨I,a3⟩:∃I:Loop,I={ state:=.ready,pending:=none,fn,tmps:=a.tmps,params:=ps,assign,body,defers:=F0 }:=⟨_,rfl⟩;rw[<-a3] at s1;have b2:I.state=.ready:=by rw[a3]
  have b1:I.pending=none:=by rw[a3]
  have Z:∀k (hk:k<a2.length),Nt P l a2[k] [bW (h1 l (.loop I)::E5 k)] (λv Y=>(v=.bool true/\Y = [bW (h1 l (.loop I)::E5 (k+1))])\/(v=.bool false/\Y = [hex λx:Code×LH=>bW (dp (gB Ν env Lg x.1 x.2)::h1 l (.loop { I with state:=.done,pending:=some x.1 })::x.2)])):=by
   intro k hk;refine nr b2 b1 (by rw[a3];exact a9 _ (cG _)) (by rw[a3];exact b7) (env:=env) ?_ ?_
   .rw[a3];exact⟨ea.size,ea.at_⟩
   .rw[a3];exact a4 k hk
  have ht:=it l (λk=>bW (h1 l (.loop I)::E5 k)) (λ_=>hex λx:Code×LH=>bW (dp (gB Ν env Lg x.1 x.2)::h1 l (.loop { I with state:=.done,pending:=some x.1 })::x.2)) Z;have b5:a.eval g=.func (.func gf) #[] cap.toArray:=aH ea.KF hg;refine⟨l,Lj r,w₁,{ target:=.fn (.func gf) cap.toArray,args:=#[.func (.yield l) #[] #[]] },w₁,gf,(.func (.yield l) #[] #[]::cap).toArray,w₁,he,?_,λ_ _=>trivial,?_,(λh=>by cases h),lu ?_⟩
  .simp only[resolve,Deferred.ofValue,b5];simp[Act.eval]
  .have:=b4 (.func (.yield l) #[] #[]::cap).toArray w₁
   simpa [invoke] using this
  have s2:Sat θ (bW (h1 l (.loop I)::E5 0)::Lg++(C6 r++(C6 ξ++η))) w₁:=by
   refine Sat.a8 (Μ:=h1 l (.loop I)::E5 0) (s1.perm ?_);simp only[aj];refine List.Perm.cons _ ?_;rw[ax];refine OI.trans ?_;refine List.Perm.append_left _ ?_;exact OI
  refine(ht.calls θ _ w₁ s2).mono ?_;rintro e w₂ ⟨v,Y,rfl,b3,s3⟩;rcases b3 with rfl|⟨k,rfl⟩
  .have s4:Sat θ (h1 l (.loop I)::(E5 a2.length++(Lg++(C6 r++(C6 ξ++η))))) w₂:=Sat.KY (Μ:=h1 l (.loop I)::E5 a2.length) s3;have hh:=s4.IN;refine⟨none,_,(by rw[<-b1];exact iK hh (by rw[b2];simp)),?_⟩;have s5:=(Sat.c7 (L6:={ I with state:=.exhausted }) s4).tail;refine⟨env,E5 a2.length++Lg,⟨r++ξ,⟨ea.size,ea.at_⟩,by simp[Lj,hm],?_⟩,a5⟩;have e:C6 (r++ξ)++η=C6 r++(C6 ξ++η):=by simp[C6]
   rw[e,ax];exact s5
  .obtain⟨⟨c,L₂⟩,s4⟩:=Sat.NK (L:=Lg++(C6 r++(C6 ξ++η))) s3;have s5:Sat θ (dp (gB Ν env Lg c L₂)::(h1 l (.loop { I with state:=.done,pending:=some c })::(L₂++(Lg++(C6 r++(C6 ξ++η)))))) w₂:=Sat.KY (Μ:=dp (gB Ν env Lg c L₂)::h1 l (.loop { I with state:=.done,pending:=some c })::L₂) s4;have hj:=s5.Nq;have s6:=s5.tail;have hh:=s6.IN;have s7:=(Sat.c7 (L6:={ ({ I with state:=.done,pending:=some c }:Loop) with state:=.exhausted }) s6).tail;refine⟨some c,_,iK hh bR,?_⟩
   have b0:At N env (L₂++Lg) θ η { a with defers:=Lj r++a.defers } { w₂ with heap:=w₂.heap.setIfInBounds l (.loop { ({ I with state:=.done,pending:=some c }:Loop) with state:=.exhausted }) }:=by
    refine⟨r++ξ,⟨ea.size,ea.at_⟩,by simp[Lj,hm],?_⟩;have e:C6 (r++ξ)++η=C6 r++(C6 ξ++η):=by simp[C6]
    rw[e,ax];exact s7
   cases c with
   | ret=>exact wpIn_ret ⟨env,_,b0,hj⟩
   | exit F=>exact wpIn_exit ⟨env,_,b0,hj⟩
   | _=>exact hj.elim
 refine wpIn_rangeFunc λfn _=>?_;cases Θ with
 | none =>
  have s1:=s0.alloc (o:=.deferred (some []));have s2:=s1.alloc (o:=.loop { state:=.ready,pending:=none,fn,tmps:=a.tmps,params:=ps,assign,body,defers:=w.heap.size });refine a6 fn (w.heap.size+1) w.heap.size [w.heap.size] _ iR ?_;rw[World.size_alloc] at s2;exact s2
 | some l =>
  obtain⟨I,Y',hY⟩:=hr l rfl
  have b6:w.heap[l]? = some (.loop I):=by
   have s1:Sat θ (h1 l (.loop I)::(E5 0++Lg++(C6 ξ++Y'))) w:=s0.perm (by
    have J:(E5 0++Lg++(C6 ξ++η)).Perm (E5 0++Lg++(C6 ξ++(h1 l (.loop I)::Y'))):=(hY.append_left _).append_left _;refine J.trans ?_;rw[<-ax,<-ax (E5 0++Lg)];exact dq)
   exact s1.IN
  exact a6 fn w.heap.size I.defers [] _ (iQ b6) s0.alloc
end fv
end
section
section
variable {P:Program}{env:Env}{L:LH}{ty:TypeId}
theorem O.bits{op:BinOp}{t yt:TypeId}{x y:Operand}{k:IntKind}{a b:Int}(ho:op=.and\/op=.or\/op=.xor)(K:χ env x=some (.int k a))(Z:χ env y=some (.int k b)):O P L env (.binOp op t x y yt) ty (.int k (Go.bits op k a b)) :=
 O.mk (λ_ _ _ w ea _ _ _ _ _=>gC (aH ea K) (aH ea Z) (by rcases ho with rfl|rfl|rfl<;>simp[go_sem]))
def O.w0{t yt:TypeId}{x y:Operand}{a b:Int}(K:χ env x=some (.int .u64 a))(Z:χ env y=some (.int .u64 b))(J:0<=a)(U:a<18446744073709551616)(h3:0<=b)(h4:b<18446744073709551616):O P L env (.binOp .xor t x y yt) ty (.int .u64 ((a.toNat ^^^ b.toNat:Nat):Int)):=by
 have:=O.bits (P:=P) (L:=L) (ty:=ty) (t:=t) (yt:=yt) (op:=.xor) bR K Z
 rwa [u64_xor a b J U h3 h4] at this
def O.x9{t yt:TypeId}{x y:Operand}{a b:Int}(K:χ env x=some (.int .u64 a))(Z:χ env y=some (.int .u64 b))(J:0<=a)(U:a<18446744073709551616)(h3:0<=b)(h4:b<18446744073709551616):O P L env (.binOp .or t x y yt) ty (.int .u64 ((a.toNat ||| b.toNat:Nat):Int)):=by
 have:=O.bits (P:=P) (L:=L) (ty:=ty) (t:=t) (yt:=yt) (op:=.or) bR K Z
 rwa [u64_or a b J U h3 h4] at this
def O.x6{t yt:TypeId}{x y:Operand}{a b:Int}(K:χ env x=some (.int .u64 a))(Z:χ env y=some (.int .u64 b))(J:0<=a)(U:a<18446744073709551616)(h3:0<=b)(h4:b<18446744073709551616):O P L env (.binOp .and t x y yt) ty (.int .u64 ((a.toNat &&& b.toNat:Nat):Int)):=by
 have:=O.bits (P:=P) (L:=L) (ty:=ty) (t:=t) (yt:=yt) (op:=.and) bR K Z
 rwa [u64_and a b J U h3 h4] at this
def O.A6{t yt:TypeId}{x y:Operand}{a b:Int}(K:χ env x=some (.int .u8 a))(Z:χ env y=some (.int .u8 b))(J:0<=a)(U:a<256)(h3:0<=b)(h4:b<256):O P L env (.binOp .and t x y yt) ty (.int .u8 ((a.toNat &&& b.toNat:Nat):Int)):=by
 have:=O.bits (P:=P) (L:=L) (ty:=ty) (t:=t) (yt:=yt) (op:=.and) bR K Z
 rwa [u8_and a b J U h3 h4] at this
def O.Tm{t yt:TypeId}{x y:Operand}{a b:Int}(K:χ env x=some (.int .u8 a))(Z:χ env y=some (.int .u8 b))(J:0<=a)(U:a<256)(h3:0<=b)(h4:b<256):O P L env (.binOp .or t x y yt) ty (.int .u8 ((a.toNat ||| b.toNat:Nat):Int)):=by
 have:=O.bits (P:=P) (L:=L) (ty:=ty) (t:=t) (yt:=yt) (op:=.or) bR K Z
 rwa [u8_or a b J U h3 h4] at this
def O.shl{t yt:TypeId}{x y:Operand}{k k' : IntKind}{a b:Int}(K:χ env x=some (.int k a))(Z:χ env y=some (.int k' b))(h0:0<=b):O P L env (.binOp .shl t x y yt) ty (.int k (k.wrap (a*2 ^ min b.toNat k.bits))) :=
 O.mk (λ_ _ _ w ea _ _ _ _ _=>gC (aH ea K) (aH ea Z) (by
  have:¬b<0:=B
  simp[binOp,Op.shift,this]))
def O.shr{t yt:TypeId}{x y:Operand}{k k' : IntKind}{a b:Int}(K:χ env x=some (.int k a))(Z:χ env y=some (.int k' b))(h0:0<=b):O P L env (.binOp .shr t x y yt) ty (.int k (a.fdiv (2 ^ min b.toNat k.bits))) :=
 O.mk (λ_ _ _ w ea _ _ _ _ _=>gC (aH ea K) (aH ea Z) (by
  have:¬b<0:=B
  simp[binOp,Op.shift,this]))
def O.A3{t yt:TypeId}{x y:Operand}{a b:Int}(K:χ env x=some (.int .u64 a))(Z:χ env y=some (.int .u64 b))(h0:0<=a)(J:a<=18446744073709551615)(hb:0<b):O P L env (.binOp .quo t x y yt) ty (.int .u64 (a / b)) :=
 O.mk (λ_ _ _ w ea _ _ _ _ _=>gC (aH ea K) (aH ea Z) (by
  have r : b≠0:=B;have U:=ir h0 (Int.le_of_lt hb);have h3:=Int.ediv_le_self b h0;simp[binOp,Op.intDiv,r,Int.tdiv_eq_ediv_of_nonneg h0,IntWalk.u64_in _ (B:0<=a / b/\a / b<=18446744073709551615)]))
def O.u0{t:TypeId}{x:Operand}{s:ByteArray}[ht:Pc P t](K:χ env x=some (.string s)):O P L env (.call { callee:=.builtin .len,args:=#[x],argTypes:=#[t] }) ty (E (s.size:Int)) :=
 O.mk (λ_ _ _ w ea _ _ _ _ _=>by
  have h:=run_len_string (P:=P) w t ty s ht.under;simp[execOp,resolve,invoke,aH ea K,builtin,h,goInt])
def fx(s:ByteArray):List Int:=s.data.toList.map λb=>(b.toNat:Int)
def rr(s:ByteArray):(fx s).length=s.size:=by simp[fx]
def Ef.l9{t:TypeId}{x y:Operand}{Τ bb:Nat}{z0:Value}{α:Type}(Β:α->LV){n:Int}[ht:IJ P t Τ 1 bb [z0]](K:χ env x=some (E 0))(Z:χ env y=some (E n))(h0:0<=n)(J:n*bb<=281474976710656)(U:n<=1000000000) :
  Ef P L env (.makeSlice t x y) ty (λv Y=>∃b,v=.slice (some ⟨b,0,none⟩) 0 n.toNat/\Y = Υ Β 1 Τ (some ⟨b,0,none⟩) n.toNat []::L) :=
 Ef.val (λθ Α a w ea s r pos af g=>⟨.slice (some ⟨w.heap.size,0,none⟩) 0 n.toNat,w.alloc (.cells (List.replicate n.toNat z0).toArray Τ),_,by
  obtain⟨ii,zz,i1,i2,i3,i4,i5⟩:=ht.Ζ
  have hz:zz.cells=#[z0]:=by
   have:=i3
   apply Array.ext';simpa using this
  have hm:madeCells zz.cells (n.toNat*ii.size)=(List.replicate n.toNat z0).toArray:=by
   rw[hz,i4,Nat.mul_one];exact lX _ _ _ (λi _=>by simp[Nat.mod_one])
  have hk:=run_make (P:=P) w t Τ ii zz ht.under i1 i2 .i64 .i64 0 n B h0 (by rw[i5,Int.mul_comm];omega) B;rw[hm] at hk
  simp[execOp,aH ea K,aH ea Z,hk],⟨_,rfl,rfl⟩,by
   have s1:=s.alloc (o:=.cells (List.replicate n.toNat z0).toArray Τ);exact Sat.Mu (Β:=Β) (sz:=1) (cap:=n.toNat) (D:=[]) (L:=L++Α) s1 bR bR (by simp only[maxLen];omega) bR bR⟩)
end
end
section
section gf
variable {P:Program}{N:Nat}{ops:Array Oper}{done:List Nat}{n:Nat}{D3:List PE}{env:Env}{L:LH}{Ν:E1}
def GF(P:Program)(N:Nat)(r:Array Oper)(done:List Nat)(n:Nat)(I:List PE)(env:Env)(L:LH)(Ν:E1):Prop :=
 Mw Ν->Region.noSelect r=true->Mg .any r (dt r.size done) ->
 ∀θ η a w S,At N env L θ η a w->kU P I S->(∀p∈S,p.2 w) ->
  KZ P .any r (QK θ η N Ν) (Mh r) n (dt r.size done) S a w
def GF.kP(kP:List Im)(hp:iE ops done kP=true)(hn:kP.length=n)(h:GP P N ops done kP D3 env L Ν):GF P N ops done n D3 env L Ν :=
 λhK hs r θ η a w S i I a2=>hn▸h hK hp hs r θ η a w S i I a2
def Δ.d9{F:Nat}{l:List Oper}[hK:Mw Ν](hm:P.follows .mixedOrders=true)(hp:(Region.noSelect l.toArray && NL l.toArray)=true)(h:GF P N l.toArray [] l.toArray.size [] env L Ν):Δ P N (.region F l.toArray true) env L Ν:=by
 intro Θ θ η a w hr i;simp only[jr] at hp;obtain⟨h3,h4⟩:=hp;refine wpIn_region_any hm (nc h4 (by rintro⟨a',ab,env,L,_,h⟩;exact hK.out env L h) _ _ _ _ (KZ.a8 (dep:=Mh l.toArray) _ _ [] _ _ ?_));obtain⟨ξ,ea,r,s⟩:=i;exact h hK h3 (Mg.a8 _) θ η a { w with drawn:=w.drawn+1 } [] ⟨ξ,ea,r,s.drew⟩ (by intro p hp;cases hp) bR
def GF.c7{i Ξ:Nat}{op:Op}{ty:TypeId}{pos:String}{af:Array Edge}{g:Option (Nat×Bool)}{v:Value}{r : List PE}(hi:ops[i]? = some ⟨some Ξ,op,ty,pos,af,g⟩)(hd:Ξ<N)
  (hr:((Region.ready .any ops (dt ops.size done)).contains i && Region.free .any ops (dt ops.size done) i)=true)
  (Z:∀θ Α a w,JI N env a->Sat θ (L++Α) w->∃Si,YieldsIf P ops Si ⟨some Ξ,op,ty,pos,af,g⟩ v a/\Si w/\∀S,kU P D3 S->kU P r ((i,Si)::S))
  (h:GF P N ops (i::done) n r ((Ξ,v)::env) L Ν):GF P N ops done (n+1) D3 env L Ν:=by
 intro hK hs a2 θ η a w S i0 a6 a3;simp only[jr,List.contains_iff_mem] at hr;obtain⟨J,U⟩:=hr;obtain⟨ξ,ea,a5,s⟩:=i0;obtain⟨Si,a7,a4,a9⟩:=Z θ _ a w ea s
 have I:∀p∈(i,Si)::S,p.2 w:=λp hp=>by
  rcases Jr hp with rfl|hp
  .exact a4
  .exact a3 p hp
 refine KZ.first hi (Region.noSelect_spec hs) (λc a w q=>(xh hK c _ w q).elim) (λj hj=>qI _ j i hj) _ _ S a w a2 (Region.free_spec hi U) J a7 a4 a3 ?_;exact h hK hs (a2.set J) θ η (a.put (some Ξ) v) w _ ⟨ξ,ea.put hd v,by rw[Oz];exact a5,s⟩ (a9 S a6) I
def GF.H6{i Ξ:Nat}{op:Op}{ty:TypeId}{pos:String}{af:Array Edge}{v:Value}(hi:ops[i]? = some ⟨some Ξ,op,ty,pos,af,none⟩)
  (hr:((Region.ready .any ops (dt ops.size done)).contains i && Region.free .any ops (dt ops.size done) i)=true) (he:O P [] env op ty v) (hd:Ξ<N) (h:GF P N ops (i::done) n D3 ((Ξ,v)::env) L Ν):GF P N ops done (n+1) D3 env L Ν:=by
 refine GF.c7 hi hd hr (λθ Α a w ea s=>⟨λ_=>True,.inl ⟨rfl,?_⟩,trivial,λS hS p hp=>?_⟩) h
 .intro ab _;exact he ⟨ab.tape,ab.os,ab.output,0⟩ [] a.eval ab _ ea.KF ⟨⟨rfl,rfl,rfl,aC _⟩,Hp.emp,Hp.emp,Hp.c7 _,Hp.a8 _,Hp.a8 _,trivial⟩ rfl rfl
 .rcases Jr hp with rfl|hp
  .exact .inl λ_=>trivial
  .exact hS p hp
def GF.Js{i Ξ:Nat}{op:Op}{ty:TypeId}{pos:String}{af:Array Edge}{v:Value}(hi:ops[i]? = some ⟨some Ξ,op,ty,pos,af,none⟩)
  (hr:((Region.ready .any ops (dt ops.size done)).contains i && Region.free .any ops (dt ops.size done) i)=true) (he:O P L env op ty v) (hd:Ξ<N) (h:GF P N ops (i::done) n (⟨i,op,ty,env,v⟩::D3) ((Ξ,v)::env) L Ν):GF P N ops done (n+1) D3 env L Ν:=by
 refine GF.c7 hi hd hr (λθ Α a w ea s=>⟨λab=>(execOp a.eval ⟨some Ξ,op,ty,pos,af,none⟩).run P ab = .ok (.value v) ab,.inl ⟨rfl,λab h=>h⟩,he θ Α a.eval w _ ea.KF s rfl rfl,λS hS p hp=>?_⟩) h;rcases Jr hp with rfl|hp
 .exact .inr ⟨_,az,rfl,a.eval,_,ea.KF,rfl,rfl,λw h=>h⟩
 .rcases hS p hp with h|⟨pe,J,U⟩
  .exact .inl h
  .exact .inr ⟨pe,aB _ J,U⟩
def GE(P:Program)(N:Nat)(r:Array Oper)(done:List Nat)(j n:Nat)(I:List PE)(env:Env)(L:LH)(Ν:E1):Prop :=
 Mw Ν->Region.noSelect r=true->Mg .any r (dt r.size done)->j∈Region.ready .any r (dt r.size done) ->
 ∀θ η a w S,At N env L θ η a w->kU P I S->(∀p∈S,p.2 w) ->
  wpOp P r (QK θ η N Ν) j (λa' ab=>(∀p∈kp (Mh r) j S,p.2 ab)/\KZ P .any r (QK θ η N Ν) (Mh r) n ((dt r.size done).setIfInBounds j true) (kp (Mh r) j S) a' ab) a w
def GF.a8(i j:Nat)(hr:(Region.ready .any ops (dt ops.size done) == [i,j])=true)(J:GE P N ops done i n D3 env L Ν)(U:GE P N ops done j n D3 env L Ν):GF P N ops done (n+1) D3 env L Ν:=by
 intro hK hs a2 θ η a w S i0 a3 a4;have I:=eq_of_beq hr;refine⟨λh0=>(by rw[h0] at I;cases I),λk hk=>?_⟩;have r:=hk;rw[I] at r;rcases Jr r with rfl|r
 .exact J hK hs a2 hk θ η a w S i0 a3 a4
 .obtain rfl:=D6 r;exact U hK hs a2 hk θ η a w S i0 a3 a4
def GE.ef{j Ξ:Nat}{op:Op}{ty:TypeId}{pos:String}{af:Array Edge}{post:Value->LH->Prop}(hi:ops[j]? = some ⟨some Ξ,op,ty,pos,af,none⟩)(he:Ef P L env op ty post)(hd:Ξ<N)
  (h:∀v Y,post v Y->(∀pe∈D3,O P Y pe.env pe.op pe.ty pe.v)/\GF P N ops (j::done) n D3 ((Ξ,v)::env) Y Ν):GE P N ops done j n D3 env L Ν:=by
 intro hK hs a2 a3 θ η a w S i0 a6 a9;obtain⟨ξ,ea,a4,s⟩:=i0;unfold wpOp;have hw:Region.wanted ⟨some Ξ,op,ty,pos,af,none⟩ (yielded ops a.tmps)=true:=rfl;simp only[hi,hw,if_true];refine .inl (he θ _ a w _ _ _ ea.KF s rfl rfl λv Y ab r s'=>?_);obtain⟨k1,k3⟩:=h v Y r
 have I:∀p∈kp (Mh ops) j S,p.2 ab/\((∀w,p.2 w)\/∃pe∈D3,pe.idx=p.1/\∃ρ o,Lv pe.env ρ/\o.op=pe.op/\o.type=pe.ty/\∀w,(execOp ρ o).run P w=.ok (.value pe.v) w->p.2 w):=by
  intro p hp;obtain⟨a5,a7⟩:=List.mem_filter.1 hp;rcases a6 p a5 with h|⟨pe,J,U,ρ,o,h4,h5,h6,h7⟩
  .exact⟨h ab,.inl h⟩
  .exact⟨h7 ab (k1 pe J θ _ ρ ab o h4 s' h5 h6),.inr ⟨pe,J,U,ρ,o,h4,h5,h6,h7⟩⟩
 exact⟨λp hp=>(I p hp).1,k3 hK hs (a2.set a3) θ η _ ab _ ⟨ξ,ea.put hd v,by rw[Oz];exact a4,s'⟩ (λp hp=>(I p hp).2) (λp hp=>(I p hp).1)⟩
end gf
end
section
section closed
variable {P:Program}{N:Nat}{env:Env}{L:LH}{Ν:E1}
def GR(P:Program)(N:Nat)(c:Code):Nat->Env->LH->E1->Prop
 | 0,_,_,_=>False
 | m+1,env,L,Ν=>Δ P N c env L (Ν.seq λr Y=>GR P N c m r Y Ν)
def GR.step{c:Code}{m:Nat}(h:Δ P N c env L (Ν.seq λr Y=>GR P N c m r Y Ν)):GR P N c (m+1) env L Ν:=h
def Δ.f5{c:Code}(m:Nat)(h:GR P N c m env L Ν):Δ P N (.loop c) env L Ν:=by
 intro Θ θ η a w hr i;refine wpIn_loop_rounds m ?_;induction m generalizing env L a w with
 | zero=>exact h.elim
 | succ m ih =>
  rw[roundsIn_succ];refine wpIn_mono (h Θ θ η a w hr i) ?_;rintro ex a' ab ⟨r,Y,i',hk⟩;cases ex with
  | normal=>exact ih hk a' ab i'
  | exit F=>exact⟨r,Y,i',hk⟩
  | goto l=>exact⟨r,Y,i',hk⟩
  | ret=>exact⟨r,Y,i',hk⟩
  | panic ch=>exact⟨r,Y,i',hk⟩
  | outgrown=>exact⟨r,Y,i',hk⟩
class To (P:Program) (f:FuncId) (N:outParam Nat) (c:outParam Code) (rs:outParam (List ResultVar)):Prop where
 enters:Enters P f
 fn:∃fn:Func,P.funcs[f]? = some fn/\fn.body=some c/\fn.results=rs.toArray/\fn.ntmps=N
def Λ.inPlace{f:FuncId}{N:Nat}{c:Code}{rs:List ResultVar}{args:LV}{post:Value->LH->Prop}[h:To P f N c rs](hN:args.length<=N)(hg:Δ P N c (Kr args 0) L (Ends P N rs post)):Λ P f args.toArray L post:=by
 obtain⟨fn,J,U,h3,h4⟩:=h.fn;exact Λ.body N h.enters J U h3 h4 hN hg
