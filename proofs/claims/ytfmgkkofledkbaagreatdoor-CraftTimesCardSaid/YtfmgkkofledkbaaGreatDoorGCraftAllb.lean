/- Lemmas and contracts of functions, in the order: V8, V14, V9, V10, V11, V12, V13, V15, V16, V17, V18, V19, V20, V29. -/
import Derived.Test.YtfmgkkofledkbaaGreatDoorGCraftAlla
import Derived.ProofKit
import Derived.Carry
import Derived.ChangeSlices
import Derived.ChangeSame
import Derived.OpenShut
import Derived.Laws.Externs
import Derived.MapKept
import Derived.Laws.BitsAllLaws
import Derived.Laws.DeepNot64
import Derived.Laws.IdiomStrings
import Derived.LoopNIn
import Derived.Maps.RangeRun
import Derived.Laws.StructEq
import Derived.Laws.Strings2
set_option linter.all false
namespace Go.V
open Go.ChangeShapes Go.WideShapes Go.ChangeAt Go.RowKit
def tW (w:World):HP:=fun ι _=>Hp.sub (el w) ι
theorem Stars.snoc {L:List HP} {ι h:Hp} {p:HP} (s:Stars L ι h) (hp:p ι Hp.emp):Stars (L++[p]) ι h:=by
 induction L generalizing h with
 | nil=>exact ⟨ι,Hp.emp,h,Hp.sub.refl _,Hp.a7 _,Hp.a6 _,Hp.sub.refl _,hp,trivial⟩
 | cons q L ih =>
  obtain ⟨ι₀,h₁,h₂,a,b,c,d,e,f⟩:=s
  exact ⟨ι₀,h₁,h₂,a,b,c,d,e,ih f⟩
theorem Tri.law {P:Program} {f:FuncId} {args:Array Value} {L:List HP} {v:Value} {post:List HP→Prop} (h:Tri P f args L (fun u L'=>u=v∧post L')) (w:World) (hs:Stars L (el w) Hp.emp) :
  Calls P f args w fun e w'=>e=.returned v∧Below w.heap.size w w':=by
 have s0:Sat ⟨w.tape,w.os,w.output,w.drawn⟩ (L++[tW w]) w:=⟨⟨rfl,rfl,rfl,Nat.le_refl _⟩,el w,Hp.emp,fun _ _ _=>rfl,Hp.sub.refl _,Hp.a6 _,hs.snoc (Hp.sub.refl _)⟩
 refine (h.calls _ _ w s0).mono ?_
 rintro e w' ⟨u,L',rfl,⟨rfl,_⟩,s1⟩
 refine ⟨rfl,?_⟩
 have s2:Sat ⟨w.tape,w.os,w.output,w.drawn⟩ (tW w::L') w':=s1.perm (List.perm_append_singleton _ _)
 obtain ⟨ok,ι,h,a,b1,c,ι₀,h₁,h₂,d1,d2,d3,d4,d5,d6⟩:=s2
 have hk:∀ k o,w.heap[k]? = some o→w'.heap[k]? = some o:=fun k o hx=>b1 k o (d1 k o (d5 k o hx))
 refine ⟨ok.os,ok.tape,ok.output,?_,fun k hk2=>?_⟩
 ·rcases Nat.lt_or_ge w'.heap.size w.heap.size with hlt|hge
  ·have h1:=hk w'.heap.size _ (Array.getElem?_eq_getElem hlt)
   rw [Array.getElem?_eq_none (Nat.le_refl _)] at h1
   cases h1
  ·exact hge
 ·rw [Array.getElem?_eq_getElem hk2]
  exact hk k _ (Array.getElem?_eq_getElem hk2)
theorem iS {H:Type} {enc:TypeId×Value→H} {P:Program} {f:Func} {s:ChangeSpec} {apart fresh handsOn:Bool} {W W' : World} {args:Array Value} {v:Value} {ds gs:List (DataW H)} {before pa pv:List MemPlace}
  (hW:DataW.Whole enc P f.params.toList s.vars apart W args.toList ds gs before)
  (hres:∀ (b:Nat) (sp:Nat→Bool) (hd:Bool),DataW.TrodAll enc P W' b sp hd f.resultTypes.toList (v.resultList f.resultTypes.size) (s.fn H (ds++gs)).results [])
  (hargs:DataW.TrodAll enc P W' 0 (fun b=>decide (b<W.heap.size)) true f.params.toList args.toList (s.fn H (ds++gs)).args pa)
  (hvars:DataW.TrodVars enc P W' (fun b=>decide (b<W.heap.size)) s.vars (s.fn H (ds++gs)).vars pv)
  (hps:before=pa++pv) (hb:Below W.heap.size W W') :
  s.post enc P f apart fresh handsOn false W args v W':=by
 refine ⟨ds,gs,before,[],pa,pv,hW,hres _ _ _,hargs,hvars,World.keptBut_mono (fun p hp=>⟨hp,?_⟩) (hb.frame (·∈before)),fun h=>by cases h⟩
 rw [hps,List.mem_append] at hp
 exact Or.inr hp
theorem vk {w:World} {k:IntKind} {b off len:Nat} {zs:List Int} (hc:∀ i,i<zs.length→w.cell? ⟨b,off+i,none⟩=some (.int k (zs.getD i 0))) (hl:len≤zs.length):isl (encZ k) 1 (some ⟨b,off,none⟩) (zs.take len) (el w) Hp.emp:=by
 refine ⟨fun _ _=>rfl,?_⟩
 rcases Nat.eq_zero_or_pos (zs.take len).length with h0|hpos
 ·exact .inl (List.eq_nil_of_length_eq_zero h0)
 right
 have hz:0<zs.length:=by simp at hpos;omega
 have h0:=hc 0 hz
 cases hb:w.heap[b]? with
 | none=>simp [World.cell?,hb] at h0
 | some o =>
  cases o with
  | cells cur E fz =>
   refine ⟨b,off,cur,E,fz,rfl,hb,fun i v hv=>?_⟩
   rw [jP] at hv
   have hi:i<(zs.take len).length:=by
    rcases Nat.lt_or_ge i (zs.take len).length with h|h
    ·exact h
    ·rw [List.getElem?_eq_none (by simpa using h)] at hv;cases hv
   have h1:=hc i (by simp at hi;omega)
   rw [cS hb] at h1
   rw [h1,← hv]
   simp only [List.length_take] at hi
   simp [show i<len by omega,List.getD,List.getElem?_eq_getElem (show i<zs.length by omega)]
  | _=>simp [World.cell?,hb] at h0
theorem Stars.push {L:List HP} {ι:Hp} {p:HP} (hp:p ι Hp.emp) (s:Stars L ι Hp.emp):Stars (p::L) ι Hp.emp:=⟨ι,Hp.emp,Hp.emp,Hp.sub.refl _,Hp.a7 _,Hp.a6 _,Hp.sub.refl _,hp,s⟩
abbrev nn (W:World) (b:Nat):Option Obj:=W.heap[b]?
theorem lD {H:Type} {enc:TypeId×Value→H} {P:Program} {W:World} {t e:TypeId} {k:IntKind} {ad:Option Addr} {len cap:Nat} {d:DataW H} {p:List MemPlace} (ht:P.underlying t=some (.slice e)) (he:P.underlying e=some (.int k)) (hc:P.cellsOf e=1)
  (h:DataW.Trod enc P W 0 (fun _=>true) true t (.slice ad len cap) d p):∃ xs:List Int,isl (encZ k) 1 ad xs (el W) Hp.emp∧len=xs.length∧(len≤cap∧cap≤maxLen)∧∀ x∈xs,(Lit.int k x).wf=true:=by
 obtain ⟨fuel,hf⟩:=h
 rcases open_ints ht he hc hf with ⟨hcs,hx⟩|⟨a,len',cap',zs,hcs,_,hl,hm,hz,hx,hcell,hwz⟩
 ·simp [Value.cells] at hcs
  obtain ⟨rfl,rfl,rfl⟩:=hcs
  exact ⟨[],⟨by simp,.inl rfl⟩,rfl,⟨by simp,by simp⟩,by simp⟩
 ·simp [Value.cells] at hcs
  obtain ⟨rfl,rfl,rfl⟩:=hcs
  simp only [if_true] at hz
  refine ⟨zs.take len,?_,by simp [List.length_take];omega,⟨hl,hm⟩,fun x hx=>hwz x (List.mem_of_mem_take hx)⟩
  rcases Nat.eq_zero_or_pos zs.length with h0|hpos
  ·have:zs=[]:=List.eq_nil_of_length_eq_zero h0
   subst this
   exact ⟨by simp,.inl (by simp)⟩
  ·have h1:=hcell 0 hpos
   obtain ⟨b,off,spot⟩:=a
   have hs:spot=none:=by
    rw [tI] at h1
    unfold World.cell? at h1
    cases hb:nn W b with
    | none=>simp [nn] at hb;simp [hb] at h1
    | some o =>
     simp only [nn] at hb
     simp only [hb] at h1
     cases o with
     | cells c E fz=>cases spot with
      | none=>rfl
      | some x=>simp at h1
     | _=>simp at h1
   subst hs
   exact vk (fun i hi=>by rw [← gr];exact hcell i hi) ab
theorem fQ {a:Int} (h:(Lit.int .i64 a).wf=true) : -9223372036854775808≤a∧a≤9223372036854775807:=by
 simp [Lit.wf,IntKind.min,IntKind.max,IntKind.signed,IntKind.bits] at h
 omega
end Go.V
namespace Go.V
open Go.ChangeShapes Go.WideShapes Go.ChangeAt Go.RowKit
end Go.V
namespace Go.V
structure SlV where
 ad:Option Addr
 n:Nat
 cap:Nat
 deriving Inhabited
def oz (s:SlV):List Value:=[.slice s.ad s.n s.cap]
def upd {α:Type} (f:Int→α) (k:Int) (v:α):Int→α:=fun j=>if j=k then v else f j
end Go.V
namespace Go.V
section
variable {P:Program} {env:Env} {L:List HP} {ty:TypeId}
theorem uj {t k e:TypeId} {p:Option Nat} {w:World} {n:Nat} (h:P.underlying t=some (.map k e)):(Op.equalIn (n+1) t (.map p) (.map none)).run P w=.ok p.isNone w:=by
 cases p<;>simp [Op.equalIn,run_underlying h]
theorem Ev.k9 {t yt K E:TypeId} {x y:Operand} {b:Nat} [ht:TyMap P t K E] (hx:evE env x=some (.map (some b))) (hy:evE env y=some (.map none)):Ev P L env (.binOp .eql t x y yt) ty (.bool false) :=
 Ev.mk (fun _ _ _ w ea _ _ _ _ _=>by
  have h1:=gG (P:=P) (w:=w) (fun n=>uj (n:=n) (p:=some b) ht.under)
  simp [execOp,ao ea hx,ao ea hy,eqGuard,binOp,h1])
theorem Ev.g8 {t K E:TypeId} {x:Operand} {v:Value} [ht:TyMap P t K E] (hx:evE env x=some v):Ev P L env (.makeInterface t x) ty (.iface t v) :=
 Ev.mk (fun _ _ _ w ea _ _ _ _ _=>by simp [execOp,ao ea hx,Instr.makeInterface,run_underlying ht.under])
theorem Ev.m5 {t xT K E:TypeId} {x:Operand} {v:Value} [ht:TyMap P t K E] (hx:evE env x=some (.iface t v)):Ev P L env (.typeAssert x xT t false) ty v :=
 Ev.mk (fun _ _ _ w ea _ _ _ _ _=>by simp [execOp,ao ea hx,Instr.typeAssert,run_underlying ht.under,go_sem,Result.andThen])
structure IsMapClone (P:Program) (f:FuncId):Prop where
 run:∀ args w,(callFunc f args).run P w=((Extern.MapsClone.clone args).run P w).andThen fun v w'=>.ok (.value v) w'
theorem rC {r:Nat} {es:Array MapEntry} {clock:Nat} {w:World} (t:TypeId) (hb:w.heap[r]? = some (.map es clock)) :
  (Extern.MapsClone.clone #[.iface t (.map (some r))]).run P w=.ok (.iface t (.map (some w.heap.size))) (w.alloc (.map es clock)):=by
 have e:Extern.MapsClone.clone #[.iface t (.map (some r))]=(getObj r >>= fun o=>match o with
   | .map entries clock=>(newObj (.map entries clock) >>= fun n=>pure (.iface t (.map (some n))))
   | _ => stuck "maps.clone: a map expected") := rfl
 rw [e]
 simp [MapKept.run_getObj_map hb,Result.andThen,go_sem]
end
end Go.V
namespace Go.V
section fv
variable {P:Program} {N:Nat} {env:Env} {L:List HP} {K:Post} {ty:TypeId}
theorem Ev.makeFunc {fn:Fn} {fs cs:Array Operand} {vs us:List Value} (h1:eJ env fs.toList=some vs) (h2:eJ env cs.toList=some us):Ev P L env (.makeFunc fn fs cs) ty (.func fn vs.toArray us.toArray) :=
 Ev.mk (fun _ _ ρ w ea _ _ _ _ _=>by
  have e1:fs.map ρ=vs.toArray:=by apply Array.ext';simpa using ea.list fs.toList vs h1
  have e2:cs.map ρ=us.toArray:=by apply Array.ext';simpa using ea.list cs.toList us h2
  simp [execOp,Instr.makeFunc,e1,e2])
theorem Ef.j7 {x:Operand} {f:FuncId} {xs:Array Operand} {ats:Array TypeId} {vs first cap:List Value} {pre R' : List HP} {post:Value→List HP→Prop}
  (c:Tri P f (first++vs++cap).toArray pre post) (hx:evE env x=some (.func (.func f) first.toArray cap.toArray)) (hv:eJ env xs.toList=some vs) (hL:Ent L (pre++R')) :
  Ef P L env (.call { callee:=.value x,args:=xs,argTypes:=ats }) ty (fun v L'=>∃ L₁,post v L₁∧L' = L₁++R'):=by
 rintro θ R a w ⟨dst,op',ty',pos,af,g⟩ next Q ha s rfl rfl hn
 have hargs:xs.map a.eval=vs.toArray:=by
  apply Array.ext'
  simpa using ha.list xs.toList vs hv
 have hrun:(execOp a.eval ⟨dst,.call { callee:=.value x,args:=xs,argTypes:=ats },ty',pos,af,g⟩).run P w=.ok (.enter f (first++vs++cap).toArray) w:=by
  simp [execOp,resolve,Deferred.ofValue,ao ha hx,invoke,hargs]
  have:=c.enters (first++vs++cap).toArray w
  simpa using this
 rw [Oper.wp,hrun,Oper.upon_enter]
 refine (c.calls θ (R'++R) w (by rw [← List.append_assoc];exact hL θ R w s)).mono ?_
 rintro e w' ⟨v,L',rfl,hp,s'⟩
 exact hn v _ w' ⟨L',hp,rfl⟩ (by rw [List.append_assoc];exact s')
theorem wk {l:Nat} {rec:Loop} {w:World} (h:w.heap[l]? = some (.loop rec)):(getObj l).run P w=.ok (.loop rec) w:=by simp [getObj,Sem.run,h]
theorem fL {l:Nat} {rec:Loop} {w:World} (h:w.heap[l]? = some (.loop rec)):(Instr.getLoop l).run P w=.ok rec w:=by
 unfold Instr.getLoop
 rw [Sem.run_bind,wk h]
 simp
theorem ic {l:Nat} {rec rec' : Loop} {w:World} (h:w.heap[l]? = some (.loop rec)):(setObj l (.loop rec')).run P w=.ok () { w with heap:=w.heap.setIfInBounds l (.loop rec') }:=by simp [setObj,Sem.run,h]
def EfR (P:Program) (L:List HP) (env:Env) (op:Op) (ty:TypeId) (post:Value→List HP→Prop):Prop :=
 ∀ r θ R a w o next Q,Agr env a.eval→Sat θ (L++R) w→o.op=op→o.type=ty→(∀ v L' w',post v L'→Sat θ (L'++R) w'→next (a.put o.dst v) w')→Oper.wpIn (FW r) 0 P o a w next Q
theorem GO.efR {ops:Array Oper} {rest:List Oper} {d:Nat} {op:Op} {pos:String} {af:Array Edge} {post:Value→List HP→Prop} (he:EfR P L env op ty post) (hd:d<N)
  (h:∀ v L',post v L'→GO P N ops rest ((d,v)::env) L' K):GO P N ops (⟨some d,op,ty,pos,af,none⟩::rest) env L K:=by
 intro r θ Y a w hr i
 refine wpListIn_plain rfl fun K' hK=>?_
 obtain ⟨M,ea,hm,s⟩:=i
 exact he r θ _ a w _ K' _ ea.agr s rfl rfl fun v L' w' hp s'=>hK _ _ (h v L' hp r θ Y _ _ hr ⟨M,ea.put hd _,by rw [defers_put];exact hm,s'⟩)
def lX (tmps:Array Value) (ps:Array Tmp) (vs:Array Value):Array Value:=(ps.zip vs).foldl (fun t (p,v)=>t.setIfInBounds p v) tmps
structure YTri (P:Program) (l:Nat) (args:List Value) (L:List HP) (post:Value→List HP→Prop):Prop where
 run:∀ θ R w,Sat θ (L++R) w→∃ rec,w.heap[l]? = some (.loop rec)∧args.length=rec.params.size∧∀ r,RoundIn (FW r) 0 P l rec.fn (lX rec.tmps rec.params args.toArray) rec.assign rec.body w (fun e w'=>∃ v L',e=.returned v∧post v L'∧Sat θ (L'++R) w')
theorem EfR.yield {x:Operand} {l:Nat} {xs:Array Operand} {ats:Array TypeId} {vs:List Value} {pre R' : List HP} {post:Value→List HP→Prop}
  (c:YTri P l vs pre post) (hx:evE env x=some (.func (.yield l) #[] #[])) (hv:eJ env xs.toList=some vs) (hL:Ent L (pre++R')) :
  EfR P L env (.call { callee:=.value x,args:=xs,argTypes:=ats }) ty (fun v L'=>∃ L₁,post v L₁∧L' = L₁++R'):=by
 rintro r θ R a w ⟨dst,op',ty',pos,af,g⟩ next Q ha s rfl rfl hn
 have hargs:xs.map a.eval=vs.toArray:=by
  apply Array.ext'
  simpa using ha.list xs.toList vs hv
 obtain ⟨rec,h1,h2,h3⟩:=c.run θ (R'++R) w (by rw [← List.append_assoc];exact hL θ R w s)
 have hrun:(execOp a.eval ⟨dst,.call { callee:=.value x,args:=xs,argTypes:=ats },ty',pos,af,g⟩).run P w=.ok (.round l rec.fn (lX rec.tmps rec.params vs.toArray) rec.assign rec.body) w:=by
  have hsz:¬(vs.length≠rec.params.size):=fun h=>h h2
  have hy:(Instr.yield l vs.toArray).run P w=.ok (.round l rec.fn (lX rec.tmps rec.params vs.toArray) rec.assign rec.body) w:=by
   unfold Instr.yield
   rw [Sem.run_bind,fL h1]
   simp only [Result.andThen_ok]
   rw [if_neg (by simpa using hsz)]
   simp [lX]
  simp only [execOp,resolve,Deferred.ofValue,ao ha hx,invoke,hargs]
  simpa using hy
 refine ⟨fun _ _=>trivial,?_⟩
 rw [Oper.semAt_eq _ _ _ (by intro c h;cases h),hrun,Oper.uponIn_round]
 refine ⟨(fun h=>by cases h),(h3 r).mono ?_⟩
 rintro e w' ⟨v,L',rfl,hp,s'⟩
 exact hn v _ w' ⟨L',hp,rfl⟩ (by rw [List.append_assoc];exact s')
def Iter (P:Program) (gf:FuncId) (cap:List Value) (vals:List (List Value)) (Lg:List HP):Prop :=
 ∀ (l:Nat) (J Jx:Nat→HP),(∀ k (hk:k<vals.length),YTri P l vals[k] [J k] (fun v L'=>(v=.bool true∧L' = [J (k+1)])∨(v=.bool false∧L' = [Jx k]))) →
  Tri P gf (.func (.yield l) #[] #[]::cap).toArray (J 0::Lg) (fun _ L'=>L' = J vals.length::Lg∨∃ k,L' = Jx k::Lg)
def penv (env:Env):List (Nat×Value)→Env
 | []=>env
 | p::r=>penv (p::env) r
theorem EnvOk.a6 {ds ds' : List Deferred}:∀ (l:List (Nat×Value)) {env:Env} {t:Array Value},(∀ p∈l,p.1<N)→EnvOk N env ⟨t,ds⟩→EnvOk N (penv env l) ⟨l.foldl (fun t p=>t.setIfInBounds p.1 p.2) t,ds'⟩
 | [],_,_,_,h=>⟨h.size,h.at_⟩
 | (p,v)::l,_,_,hp,h=>EnvOk.a6 l (fun q hq=>hp q (List.mem_cons_of_mem _ hq)) (h.put (hp (p,v) List.mem_cons_self) v)
def oC (K:Post) (env:Env) (Lg:List HP) (next:List HP):Post:=fun e _ L'=>match e with
 | .normal=>Ent L' next
 | .ret=>K .ret env (L'++Lg)
 | .exit id=>K (.exit id) env (L'++Lg)
 | _=>False
theorem KX.round {K:Post} {env env' : Env} {Lg next L' : List HP} (h:Ent L' next):oC K env Lg next .normal env' L':=h
theorem KX.f8 {K:Post} {env env' : Env} {Lg next L' : List HP} (h:K .ret env (L'++Lg)):oC K env Lg next .ret env' L':=h
theorem Sat.a7 {θ:Th} {l:Nat} {rec rec' : Loop} {L:List HP} {w:World} (s:Sat θ (own l (.loop rec)::L) w):Sat θ (own l (.loop rec')::L) { w with heap:=w.heap.setIfInBounds l (.loop rec') }:=Sat.setMap s
def eN (K:Post) (env:Env) (Lg:List HP):Code→List HP→Prop:=fun c L'=>match c with
 | .ret=>K .ret env (L'++Lg)
 | .exit id=>K (.exit id) env (L'++Lg)
 | _=>False
theorem perm_front {A B C:List HP}:(A++(B++C)).Perm (B++(A++C)):=by
 rw [← List.append_assoc,← List.append_assoc]
 exact List.perm_append_comm.append_right C
theorem mf {l:Nat} {rec:Loop} {vs:List Value} {I I' : List HP} {env0:Env} {Lg:List HP} (hst:rec.state=.ready) (hpe:rec.pending=none) (hlen:vs.length=rec.params.size) (hps:∀ p∈rec.params,p<N)
  (ht:EnvOk N env ⟨rec.tmps,[]⟩) (h:G P N rec.assign (penv env (rec.params.toList.zip vs)) I (Post.seq (fun env' L'=>G P N rec.body env' L' (oC K env0 Lg I')) (fun _ _ _=>False))) :
  YTri P l vs [aX (own l (.loop rec)::I)] (fun v L'=>(v=.bool true∧L' = [aX (own l (.loop rec)::I')])∨(v=.bool false∧L' = [hex fun x:Code×List HP=>aX (bK (eN K env0 Lg x.1 x.2)::own l (.loop { rec with state:=.done,pending:=some x.1 })::x.2)])):=by
 refine ⟨fun θ R w s=>?_⟩
 have s1:Sat θ (own l (.loop rec)::(I++R)) w:=Sat.ofStars (A:=own l (.loop rec)::I) s
 refine ⟨rec,s1.own_heap,hlen,fun r=>?_⟩
 refine roundIn_of_wpIn trivial ?_
 show rec.assign.wpIn (FW (some l)) 0 P _ _ w
 have hz:lX rec.tmps rec.params vs.toArray=(rec.params.toList.zip vs).foldl (fun t p=>t.setIfInBounds p.1 p.2) rec.tmps:=by
  unfold lX
  rw [← Array.foldl_toList]
  simp
 have hat:At N (penv env (rec.params.toList.zip vs)) I θ (own l (.loop rec)::R) ⟨lX rec.tmps rec.params vs.toArray,[]⟩ w:=by
  refine ⟨[],?_,rfl,s1.perm List.perm_middle.symm⟩
  rw [hz]
  exact EnvOk.a6 (t:=rec.tmps) _ (fun p hp=>hps p.1 (by have:=List.of_mem_zip hp;simpa using this.1)) ht
 refine wpIn_mono (h (some l) θ (own l (.loop rec)::R) _ w (fun l' hl'=>by cases hl';exact ⟨rec,R,List.Perm.refl _⟩) hat) ?_
 rintro e a' w' ⟨env',L',⟨M,ea,hm,s2⟩,hk⟩
 cases e with
 | normal =>
  have s3:Sat θ (own l (.loop rec)::(L'++(mkH M++R))) w':=s2.perm (by
   rw [← List.append_assoc,← List.append_assoc L']
   exact List.perm_middle)
  have hl3:=s3.own_heap
  have s4:=Sat.a7 (rec':={ rec with state:=.busy }) s3
  refine ⟨{ w' with heap:=w'.heap.setIfInBounds l (.loop { rec with state:=.busy }) },?_,?_⟩
  ·unfold Instr.beginRound
   rw [Sem.run_bind,fL hl3]
   simp only [Result.andThen_ok]
   rw [Sem.run_bind,ic hl3]
   simp [hst]
  have hat2:At N env' L' θ (own l (.loop { rec with state:=.busy })::R) a' { w' with heap:=w'.heap.setIfInBounds l (.loop { rec with state:=.busy }) }:=by
   refine ⟨M,ea,hm,s4.perm ?_⟩
   rw [← List.append_assoc,← List.append_assoc L']
   exact List.perm_middle.symm
  refine wpIn_mono (hk (some l) θ (own l (.loop { rec with state:=.busy })::R) a' _ (fun l' hl'=>by cases hl';exact ⟨_,R,List.Perm.refl _⟩) hat2) ?_
  rintro e2 a2 w2 ⟨env2,L2,⟨M2,ea2,hm2,s5⟩,hk2⟩
  have s6:Sat θ (own l (.loop { rec with state:=.busy })::(L2++(mkH M2++R))) w2:=s5.perm (by
   rw [← List.append_assoc,← List.append_assoc L2]
   exact List.perm_middle)
  have hl6:=s6.own_heap
  have hdrop:∀ {A:HP} {w:World},Sat θ (A::(L2++(mkH M2++R))) w→Sat θ (A::(L2++R)) w:=by
   intro A w s
   have s' : Sat θ (mkH M2++(A::(L2++R))) w:=s.perm ((List.Perm.cons A perm_front).trans List.perm_middle.symm)
   exact Ent.nil (mkH M2) θ _ w s'
  cases e2 with
  | normal =>
   have s7:=Sat.a7 (rec':=rec) s6
   refine ⟨.bool true,{ w2 with heap:=w2.heap.setIfInBounds l (.loop rec) },?_,?_⟩
   ·unfold Instr.endRound
    rw [Sem.run_bind,fL hl6]
    simp only [Result.andThen_ok]
    rw [Sem.run_bind]
    have e:({ ({ rec with state:=.busy }:Loop) with state:=if (none:Option Code).isNone then .ready else .done,pending:=none }:Loop)=rec:=by
     cases rec
     simp only [] at hst hpe
     subst hst hpe
     rfl
    rw [e,ic hl6]
    simp
   ·refine ⟨.bool true,_,rfl,.inl ⟨rfl,rfl⟩,?_⟩
    have s8:=hdrop s7
    have s9:Sat θ (I'++(own l (.loop rec)::R)) { w2 with heap:=w2.heap.setIfInBounds l (.loop rec) }:=hk2 θ _ _ (s8.perm List.perm_middle.symm)
    exact Sat.a6 (A:=own l (.loop rec)::I') (s9.perm List.perm_middle)
  | ret =>
   have s7:=Sat.a7 (rec':={ rec with state:=.done,pending:=some .ret }) s6
   refine ⟨.bool false,_,?_,⟨.bool false,_,rfl,.inr ⟨rfl,rfl⟩,Sat.c7 (f:=fun x:Code×List HP=>aX (bK (eN K env0 Lg x.1 x.2)::own l (.loop { rec with state:=.done,pending:=some x.1 })::x.2)) (.ret,L2) (Sat.a6 (A:=bK (eN K env0 Lg .ret L2)::own l (.loop { rec with state:=.done,pending:=some .ret })::L2) (Sat.addPure (hdrop s7) hk2))⟩⟩
   unfold Instr.endRound
   rw [Sem.run_bind,fL hl6]
   simp only [Result.andThen_ok]
   rw [Sem.run_bind]
   have e:({ ({ rec with state:=.busy }:Loop) with state:=if (some Code.ret:Option Code).isNone then .ready else .done,pending:=some .ret }:Loop)={ rec with state:=.done,pending:=some .ret }:=rfl
   rw [e,ic hl6]
   simp
  | exit id =>
   have s7:=Sat.a7 (rec':={ rec with state:=.done,pending:=some (.exit id) }) s6
   refine ⟨.bool false,_,?_,⟨.bool false,_,rfl,.inr ⟨rfl,rfl⟩,Sat.c7 (f:=fun x:Code×List HP=>aX (bK (eN K env0 Lg x.1 x.2)::own l (.loop { rec with state:=.done,pending:=some x.1 })::x.2)) (.exit id,L2) (Sat.a6 (A:=bK (eN K env0 Lg (.exit id) L2)::own l (.loop { rec with state:=.done,pending:=some (.exit id) })::L2) (Sat.addPure (hdrop s7) hk2))⟩⟩
   unfold Instr.endRound
   rw [Sem.run_bind,fL hl6]
   simp only [Result.andThen_ok]
   rw [Sem.run_bind]
   have e:({ ({ rec with state:=.busy }:Loop) with state:=if (some (Code.exit id):Option Code).isNone then .ready else .done,pending:=some (.exit id) }:Loop)={ rec with state:=.done,pending:=some (.exit id) }:=rfl
   rw [e,ic hl6]
   simp
  | goto t=>exact hk2.elim
  | panic c=>exact hk2.elim
  | outgrown=>exact hk2.elim
 | exit id=>exact hk.elim
 | goto t=>exact hk.elim
 | ret=>exact hk.elim
 | panic c=>exact hk.elim
 | outgrown=>exact hk.elim
theorem gx {l:Nat} {rec:Loop} {w:World} (h:w.heap[l]? = some (.loop rec)) (hs:rec.state≠.busy):(Instr.endLoop l).run P w=.ok rec.pending { w with heap:=w.heap.setIfInBounds l (.loop { rec with state:=.exhausted }) }:=by
 unfold Instr.endLoop
 rw [Sem.run_bind,fL h]
 simp only [Result.andThen_ok]
 have hb:(rec.state == LoopState.busy)=false:=by
  cases hr:rec.state<;>first|rfl|exact absurd hr hs
 rw [hb]
 simp only [Bool.false_eq_true,if_false]
 rw [Sem.run_bind]
 simp only [Sem.run_pure]
 rw [ic h]
 simp
theorem gI {fn:FuncId} {tmps:Array Value} {ps:Array Tmp} {assign body:Code} {w:World} :
  (Instr.enterLoop fn tmps ps assign body none).run P w=.ok (w.heap.size+1,[{ target:=.collected w.heap.size,args:=#[] }]) ((w.alloc (.deferred (some []))).alloc (.loop { state:=.ready,pending:=none,fn,tmps,params:=ps,assign,body,defers:=w.heap.size })):=by
 unfold Instr.enterLoop
 simp [go_sem]
theorem gH {fn:FuncId} {tmps:Array Value} {ps:Array Tmp} {assign body:Code} {w:World} {l:Nat} {rec:Loop} (h:w.heap[l]? = some (.loop rec)) :
  (Instr.enterLoop fn tmps ps assign body (some l)).run P w=.ok (w.heap.size,[]) (w.alloc (.loop { state:=.ready,pending:=none,fn,tmps,params:=ps,assign,body,defers:=rec.defers })):=by
 unfold Instr.enterLoop
 simp only []
 rw [Sem.run_bind,fL h]
 simp [go_sem]
theorem G.rangeFunc {g:Operand} {ps:Array Tmp} {assign body:Code} {gf:FuncId} {cap:List Value} {vals:List (List Value)} {Lg:List HP} (it:Iter P gf cap vals Lg) (hg:evE env g=some (.func (.func gf) #[] cap.toArray))
  (hen:Enters P gf) (hps:∀ p∈ps,p<N) (hlen:∀ vs∈vals,vs.length=ps.size) (I:Nat→List HP) (hl:Ent L (I 0++Lg))
  (hbody:∀ k (hk:k<vals.length),G P N assign (penv env (ps.toList.zip vals[k])) (I k) (Post.seq (fun env' L'=>G P N body env' L' (oC K env Lg (I (k+1)))) (fun _ _ _=>False)))
  (hdone:K .normal env (I vals.length++Lg)):G P N (.rangeFunc g ps assign body) env L K:=by
 intro r θ Y a w hr i
 obtain ⟨M,ea,hm,s⟩:=i
 have s0:Sat θ (I 0++Lg++(mkH M++Y)) w:=hl θ _ w s
 -- what is the same in both cases
 have main:∀ (fn:FuncId) (l D:Nat) (mark:List Nat) (w₁:World),(Instr.enterLoop fn a.tmps ps assign body r).run P w=.ok (l,mkD mark) w₁ →
   Sat θ (own l (.loop { state:=.ready,pending:=none,fn,tmps:=a.tmps,params:=ps,assign,body,defers:=D })::(mkH mark++(I 0++Lg++(mkH M++Y)))) w₁ →
   ∃ (l:Nat) (mark:List Deferred) (w₁:World) (d:Deferred) (w₁' : World) (f:FuncId) (args:Array Value) (w₂:World),
   (Instr.enterLoop fn a.tmps ps assign body (FW r).round).run P w=.ok (l,mark) w₁ ∧
   (resolve a.eval (rangeCall g l) 0).run P w₁=.ok d w₁' ∧
   (∀ f',Target.leads P w₁' d.target d.args=some f'→(FW r).fn f') ∧
   (invoke d.target d.args).run P w₁' = .ok (.enter f args) w₂ ∧
   ((FW r).depth.isSome=true→1≤0) ∧
   CallsIn (FW r) (0 - 1) P f args w₂ (rangePost (FW r) 0 P l (QK θ Y N K) { a with defers:=mark++a.defers }):=by
  intro fn l D mark w₁ he s1
  obtain ⟨rec,hrec⟩:∃ rec:Loop,rec={ state:=.ready,pending:=none,fn,tmps:=a.tmps,params:=ps,assign,body,defers:=D }:=⟨_,rfl⟩
  rw [← hrec] at s1
  have hst:rec.state=.ready:=by rw [hrec]
  have hpe:rec.pending=none:=by rw [hrec]
  have hy:∀ k (hk:k<vals.length),YTri P l vals[k] [aX (own l (.loop rec)::I k)] (fun v L'=>(v=.bool true∧L' = [aX (own l (.loop rec)::I (k+1))])∨(v=.bool false∧L' = [hex fun x:Code×List HP=>aX (bK (eN K env Lg x.1 x.2)::own l (.loop { rec with state:=.done,pending:=some x.1 })::x.2)])):=by
   intro k hk
   refine mf hst hpe (by rw [hrec];exact hlen _ (List.getElem_mem _)) (by rw [hrec];exact hps) (env:=env) ?_ ?_
   ·rw [hrec];exact ⟨ea.size,ea.at_⟩
   ·rw [hrec];exact hbody k hk
  have ht:=it l (fun k=>aX (own l (.loop rec)::I k)) (fun _=>hex fun x:Code×List HP=>aX (bK (eN K env Lg x.1 x.2)::own l (.loop { rec with state:=.done,pending:=some x.1 })::x.2)) hy
  have hga:a.eval g=.func (.func gf) #[] cap.toArray:=ao ea.agr hg
  refine ⟨l,mkD mark,w₁,{ target:=.fn (.func gf) cap.toArray,args:=#[.func (.yield l) #[] #[]] },w₁,gf,(.func (.yield l) #[] #[]::cap).toArray,w₁,he,?_,fun _ _=>trivial,?_,(fun h=>by cases h),ki ?_⟩
  ·simp only [resolve,Deferred.ofValue,hga]
   simp [Act.eval]
  ·have:=hen (.func (.yield l) #[] #[]::cap).toArray w₁
   simpa [invoke] using this
  have s2:Sat θ (aX (own l (.loop rec)::I 0)::Lg++(mkH mark++(mkH M++Y))) w₁:=by
   refine Sat.a6 (A:=own l (.loop rec)::I 0) (s1.perm ?_)
   simp only [List.cons_append]
   refine List.Perm.cons _ ?_
   rw [List.append_assoc]
   refine perm_front.trans ?_
   refine List.Perm.append_left _ ?_
   exact perm_front
  refine (ht.calls θ _ w₁ s2).mono ?_
  rintro e w₂ ⟨v,L',rfl,hL',s3⟩
  rcases hL' with rfl|⟨k,rfl⟩
  ·have s4:Sat θ (own l (.loop rec)::(I vals.length++(Lg++(mkH mark++(mkH M++Y))))) w₂:=Sat.ofStars (A:=own l (.loop rec)::I vals.length) s3
   have hh:=s4.own_heap
   refine ⟨none,_,(by rw [← hpe];exact gx hh (by rw [hst];simp)),?_⟩
   have s5:=(Sat.a7 (rec':={ rec with state:=.exhausted }) s4).tail
   refine ⟨env,I vals.length++Lg,⟨mark++M,⟨ea.size,ea.at_⟩,by simp [mkD,hm],?_⟩,hdone⟩
   have e:mkH (mark++M)++Y=mkH mark++(mkH M++Y):=by simp [mkH]
   rw [e,List.append_assoc]
   exact s5
  ·obtain ⟨⟨c,L₂⟩,s4⟩:=Sat.ofHex (L:=Lg++(mkH mark++(mkH M++Y))) s3
   have s5:Sat θ (bK (eN K env Lg c L₂)::(own l (.loop { rec with state:=.done,pending:=some c })::(L₂++(Lg++(mkH mark++(mkH M++Y)))))) w₂:=Sat.ofStars (A:=bK (eN K env Lg c L₂)::own l (.loop { rec with state:=.done,pending:=some c })::L₂) s4
   have hj:=s5.ofPure
   have s6:=s5.tail
   have hh:=s6.own_heap
   have s7:=(Sat.a7 (rec':={ ({ rec with state:=.done,pending:=some c }:Loop) with state:=.exhausted }) s6).tail
   refine ⟨some c,_,gx hh (by simp),?_⟩
   have hat:At N env (L₂++Lg) θ Y { a with defers:=mkD mark++a.defers } { w₂ with heap:=w₂.heap.setIfInBounds l (.loop { ({ rec with state:=.done,pending:=some c }:Loop) with state:=.exhausted }) }:=by
    refine ⟨mark++M,⟨ea.size,ea.at_⟩,by simp [mkD,hm],?_⟩
    have e:mkH (mark++M)++Y=mkH mark++(mkH M++Y):=by simp [mkH]
    rw [e,List.append_assoc]
    exact s7
   cases c with
   | ret=>exact wpIn_ret ⟨env,_,hat,hj⟩
   | exit id=>exact wpIn_exit ⟨env,_,hat,hj⟩
   | _=>exact hj.elim
 refine wpIn_rangeFunc fun fn _=>?_
 cases r with
 | none =>
  have s1:=s0.alloc (o:=.deferred (some []))
  have s2:=s1.alloc (o:=.loop { state:=.ready,pending:=none,fn,tmps:=a.tmps,params:=ps,assign,body,defers:=w.heap.size })
  refine main fn (w.heap.size+1) w.heap.size [w.heap.size] _ gI ?_
  rw [World.size_alloc] at s2
  exact s2
 | some l =>
  obtain ⟨rec,Y',hY⟩:=hr l rfl
  have hl0:w.heap[l]? = some (.loop rec):=by
   have s1:Sat θ (own l (.loop rec)::(I 0++Lg++(mkH M++Y'))) w:=s0.perm (by
    have h1:(I 0++Lg++(mkH M++Y)).Perm (I 0++Lg++(mkH M++(own l (.loop rec)::Y'))):=(hY.append_left _).append_left _
    refine h1.trans ?_
    rw [← List.append_assoc,← List.append_assoc (I 0++Lg)]
    exact List.perm_middle)
   exact s1.own_heap
  exact main fn w.heap.size rec.defers [] _ (gH hl0) s0.alloc
end fv
end Go.V
namespace Go.V
section
variable {P:Program} {env:Env} {L:List HP} {ty:TypeId}
theorem Ev.bits {op:BinOp} {t yt:TypeId} {x y:Operand} {k:IntKind} {a b:Int} (ho:op=.and∨op=.or∨op=.xor) (hx:evE env x=some (.int k a)) (hy:evE env y=some (.int k b)):Ev P L env (.binOp op t x y yt) ty (.int k (Go.bits op k a b)) :=
 Ev.mk (fun _ _ _ w ea _ _ _ _ _=>eP (ao ea hx) (ao ea hy) (by rcases ho with rfl|rfl|rfl<;>simp [go_sem]))
theorem Ev.l8 {t yt:TypeId} {x y:Operand} {a b:Int} (hx:evE env x=some (.int .u64 a)) (hy:evE env y=some (.int .u64 b)) (h1:0≤a) (h2:a<18446744073709551616) (h3:0≤b) (h4:b<18446744073709551616):Ev P L env (.binOp .xor t x y yt) ty (.int .u64 ((a.toNat ^^^ b.toNat:Nat):Int)):=by
 have:=Ev.bits (P:=P) (L:=L) (ty:=ty) (t:=t) (yt:=yt) (op:=.xor) (by simp) hx hy
 rwa [u64_xor a b h1 h2 h3 h4] at this
theorem Ev.x8 {t yt:TypeId} {x y:Operand} {a b:Int} (hx:evE env x=some (.int .u64 a)) (hy:evE env y=some (.int .u64 b)) (h1:0≤a) (h2:a<18446744073709551616) (h3:0≤b) (h4:b<18446744073709551616):Ev P L env (.binOp .or t x y yt) ty (.int .u64 ((a.toNat ||| b.toNat:Nat):Int)):=by
 have:=Ev.bits (P:=P) (L:=L) (ty:=ty) (t:=t) (yt:=yt) (op:=.or) (by simp) hx hy
 rwa [u64_or a b h1 h2 h3 h4] at this
theorem Ev.z6 {t yt:TypeId} {x y:Operand} {a b:Int} (hx:evE env x=some (.int .u64 a)) (hy:evE env y=some (.int .u64 b)) (h1:0≤a) (h2:a<18446744073709551616) (h3:0≤b) (h4:b<18446744073709551616):Ev P L env (.binOp .and t x y yt) ty (.int .u64 ((a.toNat &&& b.toNat:Nat):Int)):=by
 have:=Ev.bits (P:=P) (L:=L) (ty:=ty) (t:=t) (yt:=yt) (op:=.and) (by simp) hx hy
 rwa [u64_and a b h1 h2 h3 h4] at this
theorem Ev.shl {t yt:TypeId} {x y:Operand} {k k' : IntKind} {a b:Int} (hx:evE env x=some (.int k a)) (hy:evE env y=some (.int k' b)) (h0:0≤b):Ev P L env (.binOp .shl t x y yt) ty (.int k (k.wrap (a*2 ^ min b.toNat k.bits))) :=
 Ev.mk (fun _ _ _ w ea _ _ _ _ _=>eP (ao ea hx) (ao ea hy) (by
  have:¬b<0:=ab
  simp [binOp,Op.shift,this]))
theorem Ev.shr {t yt:TypeId} {x y:Operand} {k k' : IntKind} {a b:Int} (hx:evE env x=some (.int k a)) (hy:evE env y=some (.int k' b)) (h0:0≤b):Ev P L env (.binOp .shr t x y yt) ty (.int k (a.fdiv (2 ^ min b.toNat k.bits))) :=
 Ev.mk (fun _ _ _ w ea _ _ _ _ _=>eP (ao ea hx) (ao ea hy) (by
  have:¬b<0:=ab
  simp [binOp,Op.shift,this]))
theorem Ev.w6 {t yt:TypeId} {x y:Operand} {a b:Int} (hx:evE env x=some (.int .u64 a)) (hy:evE env y=some (.int .u64 b)) (h0:0≤a) (h1:a≤18446744073709551615) (hb:0<b):Ev P L env (.binOp .quo t x y yt) ty (.int .u64 (a / b)) :=
 Ev.mk (fun _ _ _ w ea _ _ _ _ _=>eP (ao ea hx) (ao ea hy) (by
  have hb' : b≠0:=ab
  have h2:=Int.ediv_nonneg h0 (Int.le_of_lt hb)
  have h3:=Int.ediv_le_self b h0
  simp [binOp,Op.intDiv,hb',Int.tdiv_eq_ediv_of_nonneg h0,IntWalk.u64_in _ (show 0≤a / b∧a / b≤18446744073709551615 by omega)]))
theorem Ev.t7 {t:TypeId} {x:Operand} {s:ByteArray} [ht:TyStr P t] (hx:evE env x=some (.string s)):Ev P L env (.call { callee:=.builtin .len,args:=#[x],argTypes:=#[t] }) ty (.int .i64 (s.size:Int)) :=
 Ev.mk (fun _ _ _ w ea _ _ _ _ _=>by
  have h:=run_len_string (P:=P) w t ty s ht.under
  simp [execOp,resolve,invoke,ao ea hx,builtin,h,goInt])
def aD (s:ByteArray):List Int:=s.data.toList.map fun b=>(b.toNat:Int)
theorem iU (s:ByteArray):(aD s).length=s.size:=by simp [aD]
theorem Ef.j6 {src t:TypeId} {x:Operand} {s:ByteArray} {E sz bb:Nat} {z:List Value} [hs:TyStr P src] [ht:TySl P t E sz bb z] [he:TyInt P E .u8] (hx:evE env x=some (.string s)) :
  Ef P L env (.convert src t x) ty (fun v L'=>∃ b c,v=.slice (some ⟨b,0,none⟩) s.size c∧s.size≤c∧L' = isl (encZ .u8) 1 (some ⟨b,0,none⟩) (aD s)::L) :=
 Ef.val (fun θ R ρ w ea st dst pos af g=>by
  have h:=run_bytes_of_string (P:=P) w src t E s hs.under ht.under he.under
  refine ⟨.slice (some ⟨w.heap.size,0,none⟩) s.size (grownCap w s.size 0 E),w.drew.alloc (.cells (bytesRow s (grownCap w s.size 0 E)) E ((bytesRow s (grownCap w s.size 0 E)).size,(bytesRow s (grownCap w s.size 0 E)).size+1)),_,by simp [execOp,ao ea hx,h],⟨_,_,rfl,grownCap_ge _ _ _ _,rfl⟩,?_⟩
  have s1:Sat θ (L++R) w.drew:=st.drew
  have s2:=s1.alloc (o:=.cells (bytesRow s (grownCap w s.size 0 E)) E ((bytesRow s (grownCap w s.size 0 E)).size,(bytesRow s (grownCap w s.size 0 E)).size+1))
  obtain ⟨ok,ι,h,a,b1,c1,ι₀,h₁,h₂,d1,d2,d3,d4,d5,d6⟩:=s2.freeze
  refine ⟨ok,ι,h,a,b1,c1,ι₀,h₁,h₂,d1,d2,d3,d4,⟨fun _ _=>rfl,.inr ⟨_,0,_,_,_,rfl,d5,?_⟩⟩,d6⟩
  intro i v hv
  rw [jP] at hv
  simp only [aD,List.map_map,List.getElem?_map,Option.map_eq_some_iff] at hv
  obtain ⟨b,hb,rfl⟩:=hv
  have hlt:i<s.data.size:=by
   rcases Nat.lt_or_ge i s.data.size with h|h
   ·exact h
   ·rw [List.getElem?_eq_none (by simpa using h)] at hb;cases hb
  simp only [bytesRow,Nat.zero_add]
  rw [Array.getElem?_append_left (by simpa using hlt)]
  simp at hb
  simp [hb])
theorem Ef.k8 {t:TypeId} {x y:Operand} {E bb:Nat} {z0:Value} {α:Type} (enc:α→List Value) {n:Int} [ht:TySl P t E 1 bb [z0]] (hx:evE env x=some (.int .i64 0)) (hy:evE env y=some (.int .i64 n)) (h0:0≤n) (h1:n*bb≤281474976710656) (h2:n≤1000000000) :
  Ef P L env (.makeSlice t x y) ty (fun v L'=>∃ b,v=.slice (some ⟨b,0,none⟩) 0 n.toNat∧L' = osl enc 1 E (some ⟨b,0,none⟩) n.toNat []::L) :=
 Ef.val (fun θ R a w ea s dst pos af g=>⟨.slice (some ⟨w.heap.size,0,none⟩) 0 n.toNat,w.alloc (.cells (List.replicate n.toNat z0).toArray E),_,by
  obtain ⟨ii,zz,i1,i2,i3,i4,i5⟩:=ht.parts
  have hz:zz.cells=#[z0]:=by
   have:=i3
   apply Array.ext'
   simpa using this
  have hm:madeCells zz.cells (n.toNat*ii.size)=(List.replicate n.toNat z0).toArray:=by
   rw [hz,i4,Nat.mul_one]
   exact kN _ _ _ (fun i _=>by simp [Nat.mod_one])
  have hk:=run_make (P:=P) w t E ii zz ht.under i1 i2 .i64 .i64 0 n ab h0 (by rw [i5,Int.mul_comm];omega) ab
  rw [hm] at hk
  simp [execOp,ao ea hx,ao ea hy,hk],⟨_,rfl,rfl⟩,by
   have s1:=s.alloc (o:=.cells (List.replicate n.toNat z0).toArray E)
   exact Sat.osl_mk (enc:=enc) (sz:=1) (cap:=n.toNat) (xs:=[]) (L:=L++R) s1 (by simp) (by simp) (by simp only [maxLen];omega) (by simp) (by simp)⟩)
end
end Go.V
namespace Go.V
section gf
variable {P:Program} {N:Nat} {ops:Array Oper} {done:List Nat} {n:Nat} {pend:List PE} {env:Env} {L:List HP} {K:Post}
def GF (P:Program) (N:Nat) (ops:Array Oper) (done:List Nat) (n:Nat) (pend:List PE) (env:Env) (L:List HP) (K:Post):Prop :=
 NoP K→Region.noSelect ops=true→Closed .any ops (cd ops.size done) →
 ∀ θ Y a w S,At N env L θ Y a w→jR P pend S→(∀ p∈S,p.2 w) →
  wpAnyP P .any ops (QK θ Y N K) (dpB ops) n (cd ops.size done) S a w
theorem GF.plan (plan:List Stp) (hp:gL ops done plan=true) (hn:plan.length=n) (h:GP P N ops done plan pend env L K):GF P N ops done n pend env L K :=
 fun hK hs hcl θ Y a w S i hpo hpw=>hn▸h hK hp hs hcl θ Y a w S i hpo hpw
theorem G.d8 {id:Nat} {l:List Oper} [hK:NoP K] (hm:P.follows .mixedOrders=true) (hp:(Region.noSelect l.toArray && noDefer l.toArray)=true) (h:GF P N l.toArray [] l.toArray.size [] env L K):G P N (.region id l.toArray true) env L K:=by
 intro r θ Y a w hr i
 simp only [Bool.and_eq_true] at hp
 obtain ⟨h3,h4⟩:=hp
 refine wpIn_region_any hm (lQ h4 (by rintro ⟨a',w',env,L,_,h⟩;exact hK.out env L h) _ _ _ _ (wpAnyP.a6 (dep:=dpB l.toArray) _ _ [] _ _ ?_))
 obtain ⟨M,ea,hmk,s⟩:=i
 exact h hK h3 (Closed.start _) θ Y a { w with drawn:=w.drawn+1 } [] ⟨M,ea,hmk,s.drew⟩ (by intro p hp;cases hp) (by simp)
theorem GF.c6 {i d:Nat} {op:Op} {ty:TypeId} {pos:String} {af:Array Edge} {g:Option (Nat×Bool)} {v:Value} {pend' : List PE} (hi:ops[i]? = some ⟨some d,op,ty,pos,af,g⟩) (hd:d<N)
  (hr:((Region.ready .any ops (cd ops.size done)).contains i && Region.free .any ops (cd ops.size done) i)=true)
  (hy:∀ θ R a w,EnvOk N env a→Sat θ (L++R) w→∃ Si,YieldsIf P ops Si ⟨some d,op,ty,pos,af,g⟩ v a∧Si w∧∀ S,jR P pend S→jR P pend' ((i,Si)::S))
  (h:GF P N ops (i::done) n pend' ((d,v)::env) L K):GF P N ops done (n+1) pend env L K:=by
 intro hK hs hcl θ Y a w S i0 hpo hpw
 simp only [Bool.and_eq_true,List.contains_iff_mem] at hr
 obtain ⟨h1,h2⟩:=hr
 obtain ⟨M,ea,hmk,s⟩:=i0
 obtain ⟨Si,hy1,hy2,hy3⟩:=hy θ _ a w ea s
 have hall:∀ p∈(i,Si)::S,p.2 w:=fun p hp=>by
  rcases List.mem_cons.1 hp with rfl|hp
  ·exact hy2
  ·exact hpw p hp
 refine wpAnyP.first hi (Region.noSelect_spec hs) (fun c a w q=>(vV hK c _ w q).elim) (fun j hj=>pL _ j i hj) _ _ S a w hcl (Region.free_spec hi h2) h1 hy1 hy2 hpw ?_
 exact h hK hs (hcl.set h1) θ Y (a.put (some d) v) w _ ⟨M,ea.put hd v,by rw [defers_put];exact hmk,s⟩ (hy3 S hpo) hall
theorem GF.evP {i d:Nat} {op:Op} {ty:TypeId} {pos:String} {af:Array Edge} {v:Value} (hi:ops[i]? = some ⟨some d,op,ty,pos,af,none⟩)
  (hr:((Region.ready .any ops (cd ops.size done)).contains i && Region.free .any ops (cd ops.size done) i)=true) (he:Ev P [] env op ty v) (hd:d<N) (h:GF P N ops (i::done) n pend ((d,v)::env) L K):GF P N ops done (n+1) pend env L K:=by
 refine GF.c6 hi hd hr (fun θ R a w ea s=>⟨fun _=>True,.inl ⟨rfl,?_⟩,trivial,fun S hS p hp=>?_⟩) h
 ·intro w' _
  exact he ⟨w'.tape,w'.os,w'.output,0⟩ [] a.eval w' _ ea.agr ⟨⟨rfl,rfl,rfl,Nat.zero_le _⟩,Hp.emp,Hp.emp,Hp.a7 _,Hp.a6 _,Hp.a6 _,trivial⟩ rfl rfl
 ·rcases List.mem_cons.1 hp with rfl|hp
  ·exact .inl fun _=>trivial
  ·exact hS p hp
theorem GF.evL {i d:Nat} {op:Op} {ty:TypeId} {pos:String} {af:Array Edge} {v:Value} (hi:ops[i]? = some ⟨some d,op,ty,pos,af,none⟩)
  (hr:((Region.ready .any ops (cd ops.size done)).contains i && Region.free .any ops (cd ops.size done) i)=true) (he:Ev P L env op ty v) (hd:d<N) (h:GF P N ops (i::done) n (⟨i,op,ty,env,v⟩::pend) ((d,v)::env) L K):GF P N ops done (n+1) pend env L K:=by
 refine GF.c6 hi hd hr (fun θ R a w ea s=>⟨fun w'=>(execOp a.eval ⟨some d,op,ty,pos,af,none⟩).run P w' = .ok (.value v) w',.inl ⟨rfl,fun w' h=>h⟩,he θ R a.eval w _ ea.agr s rfl rfl,fun S hS p hp=>?_⟩) h
 rcases List.mem_cons.1 hp with rfl|hp
 ·exact .inr ⟨_,List.mem_cons_self,rfl,a.eval,_,ea.agr,rfl,rfl,fun w h=>h⟩
 ·rcases hS p hp with h|⟨pe,h1,h2⟩
  ·exact .inl h
  ·exact .inr ⟨pe,List.mem_cons_of_mem _ h1,h2⟩
def GE (P:Program) (N:Nat) (ops:Array Oper) (done:List Nat) (j n:Nat) (pend:List PE) (env:Env) (L:List HP) (K:Post):Prop :=
 NoP K→Region.noSelect ops=true→Closed .any ops (cd ops.size done)→j∈Region.ready .any ops (cd ops.size done) →
 ∀ θ Y a w S,At N env L θ Y a w→jR P pend S→(∀ p∈S,p.2 w) →
  wpOp P ops (QK θ Y N K) j (fun a' w'=>(∀ p∈kp (dpB ops) j S,p.2 w')∧wpAnyP P .any ops (QK θ Y N K) (dpB ops) n ((cd ops.size done).setIfInBounds j true) (kp (dpB ops) j S) a' w') a w
theorem GF.a6 (i j:Nat) (hr:(Region.ready .any ops (cd ops.size done) == [i,j])=true) (h1:GE P N ops done i n pend env L K) (h2:GE P N ops done j n pend env L K):GF P N ops done (n+1) pend env L K:=by
 intro hK hs hcl θ Y a w S i0 hpo hpw
 have hr':=eq_of_beq hr
 refine ⟨fun h0=>(by rw [h0] at hr';cases hr'),fun k hk=>?_⟩
 have hk':=hk
 rw [hr'] at hk'
 rcases List.mem_cons.1 hk' with rfl|hk'
 ·exact h1 hK hs hcl hk θ Y a w S i0 hpo hpw
 ·obtain rfl:=List.mem_singleton.1 hk'
  exact h2 hK hs hcl hk θ Y a w S i0 hpo hpw
theorem GE.ef {j d:Nat} {op:Op} {ty:TypeId} {pos:String} {af:Array Edge} {post:Value→List HP→Prop} (hi:ops[j]? = some ⟨some d,op,ty,pos,af,none⟩) (he:Ef P L env op ty post) (hd:d<N)
  (h:∀ v L',post v L'→(∀ pe∈pend,Ev P L' pe.env pe.op pe.ty pe.v)∧GF P N ops (j::done) n pend ((d,v)::env) L' K):GE P N ops done j n pend env L K:=by
 intro hK hs hcl hir θ Y a w S i0 hpo hpw
 obtain ⟨M,ea,hmk,s⟩:=i0
 unfold wpOp
 have hw:Region.wanted ⟨some d,op,ty,pos,af,none⟩ (yielded ops a.tmps)=true:=rfl
 simp only [hi,hw,if_true]
 refine .inl (he θ _ a w _ _ _ ea.agr s rfl rfl fun v L' w' hpost s'=>?_)
 obtain ⟨k1,k3⟩:=h v L' hpost
 have hkk:∀ p∈kp (dpB ops) j S,p.2 w'∧((∀ w,p.2 w)∨∃ pe∈pend,pe.idx=p.1∧∃ ρ o,Agr pe.env ρ∧o.op=pe.op∧o.type=pe.ty∧∀ w,(execOp ρ o).run P w=.ok (.value pe.v) w→p.2 w):=by
  intro p hp
  obtain ⟨hp1,hp2⟩:=List.mem_filter.1 hp
  rcases hpo p hp1 with h|⟨pe,h1,h2,ρ,o,h4,h5,h6,h7⟩
  ·exact ⟨h w',.inl h⟩
  ·exact ⟨h7 w' (k1 pe h1 θ _ ρ w' o h4 s' h5 h6),.inr ⟨pe,h1,h2,ρ,o,h4,h5,h6,h7⟩⟩
 exact ⟨fun p hp=>(hkk p hp).1,k3 hK hs (hcl.set hir) θ Y _ w' _ ⟨M,ea.put hd v,by rw [defers_put];exact hmk,s'⟩ (fun p hp=>(hkk p hp).2) (fun p hp=>(hkk p hp).1)⟩
end gf
end Go.V
namespace Go.V
section closed
variable {P:Program} {N:Nat} {env:Env} {L:List HP} {K:Post}
def GR (P:Program) (N:Nat) (c:Code):Nat→Env→List HP→Post→Prop
 | 0,_,_,_=>False
 | m+1,env,L,K=>G P N c env L (K.seq fun env' L'=>GR P N c m env' L' K)
theorem GR.step {c:Code} {m:Nat} (h:G P N c env L (K.seq fun env' L'=>GR P N c m env' L' K)):GR P N c (m+1) env L K:=h
theorem G.d7 {c:Code} (m:Nat) (h:GR P N c m env L K):G P N (.loop c) env L K:=by
 intro r θ Y a w hr i
 refine wpIn_loop_rounds m ?_
 induction m generalizing env L a w with
 | zero=>exact h.elim
 | succ m ih =>
  rw [roundsIn_succ]
  refine wpIn_mono (h r θ Y a w hr i) ?_
  rintro ex a' w' ⟨env',L',i',hk⟩
  cases ex with
  | normal=>exact ih hk a' w' i'
  | exit id=>exact ⟨env',L',i',hk⟩
  | goto l=>exact ⟨env',L',i',hk⟩
  | ret=>exact ⟨env',L',i',hk⟩
  | panic ch=>exact ⟨env',L',i',hk⟩
  | outgrown=>exact ⟨env',L',i',hk⟩
class FnOf (P:Program) (f:FuncId) (N:outParam Nat) (c:outParam Code) (rs:outParam (List ResultVar)):Prop where
 enters:Enters P f
 fn:∃ fn:Func,P.funcs[f]? = some fn∧fn.body=some c∧fn.results=rs.toArray∧fn.ntmps=N
theorem Tri.inPlace {f:FuncId} {N:Nat} {c:Code} {rs:List ResultVar} {args:List Value} {post:Value→List HP→Prop} [h:FnOf P f N c rs] (hN:args.length≤N) (hg:G P N c (env0 args 0) L (Ends P N rs post)):Tri P f args.toArray L post:=by
 obtain ⟨fn,h1,h2,h3,h4⟩:=h.fn
 exact Tri.body N h.enters h1 h2 h3 h4 hN hg
end closed
end Go.V
namespace Go.V
class TyIS (P:Program) (T:Nat) (n:outParam Nat):Prop where
 under:P.underlying T=some (.struct (P.fieldsOf T))
 free:P.stoodInHeld T=false
 guard:P.eqGuardType P.depth T=false
 flds : (P.fieldsOf T).toList.map (fun f => (f.name == "_", f.offset, P.underlying f.type)) = (List.range n).map fun i => (false, i, some (.int .i64))
 one:∀ f∈(P.fieldsOf T).toList,∀ w,(isAgg f.type).run P w=.ok false w
theorem TyIS.of {P:Program} {T n:Nat} (h1:P.underlying T=some (.struct (P.fieldsOf T))) (h2:P.stoodInHeld T=false) (h3:P.eqGuardType P.depth T=false)
  (h4 : (P.fieldsOf T).toList.map (fun f => (f.name == "_", f.offset, P.underlying f.type)) = (List.range n).map fun i => (false, i, some (.int .i64)))
  (_h5:(P.fieldsOf T).toList.all (fun f=>(P.info? f.type).isSome)=true):TyIS P T n :=
 ⟨h1,h2,h3,h4,fun f hf w=>by
  have h6 : (f.name == "_", f.offset, P.underlying f.type) ∈ (List.range n).map fun i => (false, i, some (TypeDesc.int .i64)) := by rw [← h4]; exact List.mem_map_of_mem hf
  obtain ⟨i,_,hi⟩:=List.mem_map.1 h6
  simp only [Prod.mk.injEq] at hi
  have hu:=hi.2.2.symm
  simp [isAgg,run_underlying hu]⟩
theorem gF {P:Program} {T:Nat} {cs:Array Value} {i:Nat} {v:Value} {w:World} (h1:∀ w,(isAgg T).run P w=.ok false w) (h:cs[i]? = some v):(part T cs i).run P w=.ok v w:=by
 simp [part,h1 w,h]
theorem eqFields_int {P : Program} {w : World} {d : Nat} {xs ys : List Int} : ∀ (fs : List Field) (i : Nat), fs.map (fun f => (f.name == "_", f.offset, P.underlying f.type)) = (List.range' i fs.length).map (fun i => (false, i, some (TypeDesc.int .i64))) →
  (∀ f∈fs,∀ w,(isAgg f.type).run P w=.ok false w)→i+fs.length=xs.length→xs.length=ys.length →
  (Op.eqFields (d+1) (xs.map (Value.int .i64)).toArray (ys.map (Value.int .i64)).toArray fs).run P w=.ok (decide (xs.drop i=ys.drop i)) w:=by
 intro fs
 induction fs with
 | nil =>
  intro i _ _ h2 h3
  simp only [List.length_nil] at h2
  rw [List.drop_of_length_le ab,List.drop_of_length_le ab]
  simp [Op.eqFields]
 | cons f fs ih =>
  intro i h1 ho h2 h3
  simp only [List.length_cons] at h2
  simp only [List.map_cons,List.length_cons,List.range'_succ,List.cons.injEq,Prod.mk.injEq] at h1
  obtain ⟨⟨hn,hoff,hu⟩,hr⟩:=h1
  have hn' : f.name ≠ "_" := by simpa using hn
  have hix:i<xs.length:=ab
  have hiy:i<ys.length:=ab
  have hf:=ho f (List.mem_cons_self ..)
  have e1:(xs.map (Value.int .i64)).toArray[i]? = some (.int .i64 xs[i]):=by simp [hix]
  have e2:(ys.map (Value.int .i64)).toArray[i]? = some (.int .i64 ys[i]):=by simp [hiy]
  have ih':=ih (i+1) hr (fun g hg=>ho g (List.mem_cons_of_mem _ hg)) ab h3
  simp only [Op.eqFields,if_pos hn',hoff,Sem.run_bind,gF hf e1,gF hf e2,Result.andThen_ok,run_equalIn_int w d f.type .i64 .i64 xs[i] ys[i] hu]
  rw [List.drop_eq_getElem_cons hix,List.drop_eq_getElem_cons hiy]
  by_cases he:xs[i]=ys[i]
  ·simp only [he,beq_self_eq_true,Bool.not_true,Bool.false_eq_true,if_false,ih',List.cons.injEq,true_and]
  ·have hb:(xs[i] == ys[i])=false:=by simpa using he
   simp only [hb,Bool.not_false,if_true,Sem.run_pure,List.cons.injEq,he,false_and,decide_false]
theorem kn {P:Program} {T n:Nat} [h:TyIS P T n] {w:World} {d:Nat} {xs ys:List Int} (hx:xs.length=n) (hy:ys.length=n) :
  (Op.equalIn (d+2) T (.agg (xs.map (Value.int .i64)).toArray) (.agg (ys.map (Value.int .i64)).toArray)).run P w=.ok (decide (xs=ys)) w:=by
 rw [run_equalIn_struct w (d+1) T _ _ h.under h.free]
 have hl:(P.fieldsOf T).toList.length=n:=by
  have:=congrArg List.length h.flds
  simpa using this
 have:=eqFields_int (P:=P) (w:=w) (d:=d) (xs:=xs) (ys:=ys) (P.fieldsOf T).toList 0 (by rw [hl,← List.range_eq_range'];exact h.flds) h.one ab ab
 simpa using this
class IntsOf (cs:List Value) (xs:outParam (List Int)):Prop where
 eq:cs=xs.map (Value.int .i64)
instance:IntsOf [] []:=⟨rfl⟩
instance (a:Int) (cs:List Value) (xs:List Int) [h:IntsOf cs xs]:IntsOf (.int .i64 a::cs) (a::xs):=⟨by rw [h.eq];rfl⟩
section
variable {P:Program} {L:List HP} {env:Env} {ty:TypeId}
theorem Ev.w9 {t yt:TypeId} {x y:Operand} {n:Nat} [h:TyIS P t n] {cs ds:List Value} (hx:evE env x=some (.agg cs.toArray)) (hy:evE env y=some (.agg ds.toArray)) {xs ys:List Int} [hc:IntsOf cs xs] [hd:IntsOf ds ys] (hl:xs.length=n) (hl' : ys.length=n) :
  Ev P L env (.binOp .eql t x y yt) ty (.bool (dB (xs=ys))) :=
 Ev.mk (fun θ R _ w ea s _ _ _ _=>by
  rw [hc.eq] at hx;rw [hd.eq] at hy
  have h1:=kn (P:=P) (T:=t) (w:=w) (d:=9998) hl hl'
  simp [execOp,ao ea hx,ao ea hy,run_eqGuard_agg w .eql t x y _ _ h.guard,run_eql_struct,h1,cu])
theorem Ev.m0 {t yt:TypeId} {x y:Operand} {n:Nat} [h:TyIS P t n] {cs ds:List Value} (hx:evE env x=some (.agg cs.toArray)) (hy:evE env y=some (.agg ds.toArray)) {xs ys:List Int} [hc:IntsOf cs xs] [hd:IntsOf ds ys] (hl:xs.length=n) (hl' : ys.length=n) :
  Ev P L env (.binOp .neq t x y yt) ty (.bool (dB (¬xs=ys))) :=
 Ev.mk (fun θ R _ w ea s _ _ _ _=>by
  rw [hc.eq] at hx;rw [hd.eq] at hy
  have h1:=kn (P:=P) (T:=t) (w:=w) (d:=9998) hl hl'
  simp [execOp,ao ea hx,ao ea hy,run_eqGuard_agg w .neq t x y _ _ h.guard,run_neq_struct,h1,cu])
end
class KeyT (P:Program) (K:TypeId) {κ:Type} [DecidableEq κ] (kv:κ→Value):Prop where
 inj:∀ a b,kv a=kv b→a=b
 check:∀ e k w,(Instr.checkKey e 10000 K (kv k)).run P w=.ok () w
 bits:∀ k,Instr.sameBits 10000 (kv k) (kv k)=true
 find:∀ (k:κ) (es:List MapEntry) (ks:List κ) w,es.map (·.key)=ks.map kv→(Instr.findKey K (kv k) es).run P w=.ok ((ks.findIdx? (fun q=>q == k)).bind fun j=>(es[j]?).map fun e=>(j,e.val)) w
theorem lv {κ:Type} [DecidableEq κ] {kv:κ→Value} {d:TypeDesc} (hs:∀ a b:κ,Instr.sameNow d (kv a) (kv b)=some (decide (a=b))) (k:κ):∀ (es:List MapEntry) (ks:List κ) (i:Nat),es.map (·.key)=ks.map kv →
  Instr.findNow d (kv k) es i=some ((ks.findIdx? (fun q=>q == k)).bind fun j=>(es[j]?).map fun e=>(i+j,e.val))
 | [],[],i,_=>by simp [Instr.findNow]
 | [],_::_,_,h=>by simp at h
 | _::_,[],_,h=>by simp at h
 | e::es,p::ks,i,h=>by
  simp only [List.map_cons,List.cons.injEq] at h
  obtain ⟨h1,h3⟩:=h
  have ih:=lv hs k es ks (i+1) h3
  simp only [Instr.findNow,h1,hs]
  by_cases hk:k=p
  ·subst hk
   simp [List.findIdx?_cons]
  ·have hb' : (p == k)=false:=by simpa using fun h=>hk h.symm
   simp only [hk,decide_false,ih,List.findIdx?_cons,hb']
   cases hf:List.findIdx? (fun q=>q == k) ks<;>simp
   rename_i j
   rw [show i+1+j=i+(j+1) by omega]
theorem lK {P:Program} {K:TypeId} {κ:Type} [DecidableEq κ] {kv:κ→Value} {w:World} (hs:∀ a b:κ,(Op.equal K (kv a) (kv b)).run P w=.ok (decide (a=b)) w) (k:κ):∀ (es:List MapEntry) (ks:List κ) (i:Nat),es.map (·.key)=ks.map kv →
  (Instr.findAsking K (kv k) es i).run P w=.ok ((ks.findIdx? (fun q=>q == k)).bind fun j=>(es[j]?).map fun e=>(i+j,e.val)) w
 | [],[],i,_=>by simp [Instr.findAsking]
 | [],_::_,_,h=>by simp at h
 | _::_,[],_,h=>by simp at h
 | e::es,p::ks,i,h=>by
  simp only [List.map_cons,List.cons.injEq] at h
  obtain ⟨h1,h3⟩:=h
  have ih:=lK hs k es ks (i+1) h3
  simp only [Instr.findAsking,h1,Sem.run_bind,hs,Result.andThen_ok]
  by_cases hk:k=p
  ·subst hk
   simp [List.findIdx?_cons]
  ·have hb' : (p == k)=false:=by simpa using fun h=>hk h.symm
   simp only [hk,decide_false,Bool.false_eq_true,if_false,ih,List.findIdx?_cons,hb']
   cases hf:List.findIdx? (fun q=>q == k) ks<;>simp
   rename_i j
   rw [show i+1+j=i+(j+1) by omega]
def kvI (k:Int):Value:=.int .i64 k
def kvS (s:ByteArray):Value:=.string s
def kvP (p:Int×Int):Value:=.agg ([p.1,p.2].map (Value.int .i64)).toArray
theorem keyI {P:Program} {K:TypeId} [h:TyInt P K .i64]:KeyT P K kvI where
 inj a b h:=by simpa [kvI] using h
 check e k w:=by
  have:∀ m,(Instr.checkKey e (m+1) K (kvI k)).run P w=.ok () w:=fun m=>by simp [Instr.checkKey,kvI,run_underlying h.under]
  exact this 9999
 bits k:=by
  show Instr.sameBits (9999+1) (.int .i64 k) (.int .i64 k)=true
  simp [Instr.sameBits]
 find k es ks w he:=by
  have:=lv (kv:=kvI) (d:=.int .i64) (fun a b=>by simp [kvI,Instr.sameNow];rfl) k es ks 0 he
  simp only [Instr.findKey,Sem.run_bind,run_underlying h.under,Result.andThen_ok,this,Sem.run_pure,Nat.zero_add]
theorem keyS {P:Program} {K:TypeId} [h:TyStr P K]:KeyT P K kvS where
 inj a b h:=by simpa [kvS] using h
 check e k w:=by
  have:∀ m,(Instr.checkKey e (m+1) K (kvS k)).run P w=.ok () w:=fun m=>by simp [Instr.checkKey,kvS,run_underlying h.under]
  exact this 9999
 bits k:=by
  show Instr.sameBits (9999+1) (.string k) (.string k)=true
  simp only [Instr.sameBits,beq_toListBytes,beq_self_eq_true]
 find k es ks w he:=by
  have:=lv (kv:=kvS) (d:=.string) (fun a b=>by simp only [kvS,Instr.sameNow,beq_toListBytes,vR]) k es ks 0 he
  simp only [Instr.findKey,Sem.run_bind,run_underlying h.under,Result.andThen_ok,this,Sem.run_pure,Nat.zero_add]
theorem yx {P:Program} {K n:Nat} [h:TyIS P K n] {e:Bool} {xs:List Int} {w:World} (hx:xs.length=n):(Instr.checkKey e 10000 K (.agg (xs.map (Value.int .i64)).toArray)).run P w=.ok () w:=by
 have hl:(P.fieldsOf K).toList.length=n:=by
  have:=congrArg List.length h.flds
  simpa using this
 have main:∀ k:Nat,(∀ T n,P.underlying T=some (TypeDesc.int .i64)→(Instr.checkKey e k T (.int .i64 n)).run P w=.ok () w)→(Instr.checkKey e (k+1) K (.agg (xs.map (Value.int .i64)).toArray)).run P w=.ok () w:=by
  intro k hk
  have aux : ∀ (fs : List Field) (i : Nat), fs.map (fun f => (f.name == "_", f.offset, P.underlying f.type)) = (List.range' i fs.length).map (fun i => (false, i, some (TypeDesc.int .i64))) →
    (∀ f∈fs,∀ w,(isAgg f.type).run P w=.ok false w)→i+fs.length=xs.length →
    (forIn fs PUnit.unit fun f r=>(do
     if f.name ≠ "_" then
      Instr.checkKey e k f.type (← part f.type (xs.map (Value.int .i64)).toArray f.offset)
      pure (ForInStep.yield PUnit.unit)
     else pure (ForInStep.yield PUnit.unit):Sem (ForInStep PUnit))).run P w=.ok PUnit.unit w:=by
   intro fs
   induction fs with
   | nil=>intro i _ _ _;simp
   | cons f fs ih =>
    intro i h1 ho h2
    simp only [List.length_cons] at h2
    simp only [List.map_cons,List.length_cons,List.range'_succ,List.cons.injEq,Prod.mk.injEq] at h1
    obtain ⟨⟨hn,hoff,hu⟩,hr⟩:=h1
    have hn' : f.name ≠ "_" := by simpa using hn
    have hix:i<xs.length:=ab
    have hf:=ho f (List.mem_cons_self ..)
    have e1:(xs.map (Value.int .i64)).toArray[i]? = some (.int .i64 xs[i]):=by simp [hix]
    have ih':=ih (i+1) hr (fun g hg=>ho g (List.mem_cons_of_mem _ hg)) ab
    rw [List.forIn_cons]
    simp only [if_pos hn',hoff,Sem.run_bind,gF hf e1,Result.andThen_ok,hk _ _ hu,Sem.run_pure]
    exact ih'
  have:=aux (P.fieldsOf K).toList 0 (by rw [hl,← List.range_eq_range'];exact h.flds) h.one ab
  simp only [Instr.checkKey,Sem.run_bind,run_underlying h.under,Result.andThen_ok]
  rw [← Array.forIn_toList]
  simp at this ⊢
  rw [this]
  rfl
 exact main 9999 fun T n hT=>by
  have:∀ m,(Instr.checkKey e (m+1) T (.int .i64 n)).run P w=.ok () w:=fun m=>by simp [Instr.checkKey,run_underlying hT]
  exact this 9998
theorem keyP {P:Program} {K:TypeId} [h:TyIS P K 2]:KeyT P K kvP where
 inj a b h:=by
  simp [kvP] at h
  exact Prod.ext h.1 h.2
 check e k w:=yx (xs:=[k.1,k.2]) rfl
 bits k:=by
  have:∀ n,Instr.sameBits (n+1) (kvP k) (kvP k)=true:=fun n=>by simp [Instr.sameBits,kvP]
  exact this 9999
 find k es ks w he:=by
  have hq:∀ a b:Int×Int,(Op.equal K (kvP a) (kvP b)).run P w=.ok (decide (a=b)) w:=by
   intro a b
   have:=kn (P:=P) (T:=K) (w:=w) (d:=9998) (xs:=[a.1,a.2]) (ys:=[b.1,b.2]) rfl rfl
   have e:decide ([a.1,a.2]=[b.1,b.2])=decide (a=b):=by
    obtain ⟨a1,a2⟩:=a
    obtain ⟨b1,b2⟩:=b
    simp
   rw [← e]
   exact this
  have h2:=lK (P:=P) (K:=K) (w:=w) hq k es ks 0 he
  simp only [Instr.findKey,Sem.run_bind,run_underlying h.under,Result.andThen_ok]
  cases es with
  | nil =>
   cases ks with
   | nil=>simp [Instr.findNow]
   | cons _ _=>simp at he
  | cons x es =>
   cases ks with
   | nil=>simp at he
   | cons q ks =>
    have hk:x.key=kvP q:=by simp at he;exact he.1
    have hn:Instr.findNow (.struct (P.fieldsOf K)) (kvP k) (x::es) 0=none:=by simp [Instr.findNow,Instr.sameNow]
    rw [hn]
    simp only [Nat.zero_add] at h2
    exact h2
class KeyVal {κ:Type} (kv:κ→Value) (v:Value) (k:outParam κ):Prop where
 eq:v=kv k
instance (n:Int):KeyVal kvI (.int .i64 n) n:=⟨rfl⟩
instance (s:ByteArray):KeyVal kvS (.string s) s:=⟨rfl⟩
instance (a b:Int):KeyVal kvP (.agg #[.int .i64 a,.int .i64 b]) (a,b):=⟨rfl⟩
instance (n:Int):KeyVal kvI (kvI n) n:=⟨rfl⟩
def gmap {κ α:Type} (kv:κ→Value) (enc:α→Value) (b:Nat) (m:List (κ×α)):HP:=fun _ h =>
 ∃ es clock,h b=some (.map es clock)∧es.toList.map (fun e=>(e.key,e.val))=m.map (fun p=>(kv p.1,enc p.2))∧(m.map (·.1)).Nodup∧es.size≤clock∧(∀ e∈es,e.born<clock)∧(es.toList.map (·.born)).Nodup
def itOk {κ α:Type} (kv:κ→Value) (enc:α→Value) (m done:List (κ×α)) (x:Array MapEntry×Nat×Array Nat×List Nat):Prop :=
 x.1.toList.map (fun e=>(e.key,e.val))=m.map (fun p=>(kv p.1,enc p.2))∧(m.map (·.1)).Nodup∧x.1.size≤x.2.1∧(∀ e∈x.1,e.born<x.2.1)∧(x.1.toList.map (·.born)).Nodup ∧
  x.2.2.2.Nodup∧(∀ j∈x.2.2.2,j<m.length)∧done=x.2.2.2.filterMap (fun j=>m[j]?)∧x.2.2.1.toList=x.2.2.2.filterMap (fun j=>(x.1[j]?).map (·.born))
def dd {κ α:Type} (kv:κ→Value) (enc:α→Value) (b:Nat) (m:List (κ×α)) (r:Nat) (done:List (κ×α)):HP:=hex fun x:Array MapEntry×Nat×Array Nat×List Nat =>
 aX [bK (itOk kv enc m done x),own b (.map x.1 x.2.1),own r (.mapIter (some b) x.2.1 x.2.2.1 x.2.1)]
class PickG (L:List HP) (b:Nat) (κ α:outParam Type) (kv:outParam (κ→Value)) (enc:outParam (α→Value)) (m:outParam (List (κ×α))) (R:outParam (List HP)):Prop where
 perm:L.Perm (gmap kv enc b m::R)
instance {κ α:Type} (L:List HP) (b:Nat) (kv:κ→Value) (enc:α→Value) (m:List (κ×α)):PickG (gmap kv enc b m::L) b κ α kv enc m L:=⟨List.Perm.refl _⟩
instance {κ α:Type} (A:HP) (L:List HP) (b:Nat) (kv:κ→Value) (enc:α→Value) (m:List (κ×α)) (R:List HP) [h:PickG L b κ α kv enc m R]:PickG (A::L) b κ α kv enc m (A::R):=⟨(h.perm.cons A).trans (List.Perm.swap _ _ _)⟩
class PickIt (L:List HP) (r:Nat) (κ α:outParam Type) (kv:outParam (κ→Value)) (enc:outParam (α→Value)) (b:outParam Nat) (m done:outParam (List (κ×α))) (R:outParam (List HP)):Prop where
 perm:L.Perm (dd kv enc b m r done::R)
instance {κ α:Type} (L:List HP) (b r:Nat) (kv:κ→Value) (enc:α→Value) (m done:List (κ×α)):PickIt (dd kv enc b m r done::L) r κ α kv enc b m done L:=⟨List.Perm.refl _⟩
instance {κ α:Type} (A:HP) (L:List HP) (b r:Nat) (kv:κ→Value) (enc:α→Value) (m done:List (κ×α)) (R:List HP) [h:PickIt L r κ α kv enc b m done R]:PickIt (A::L) r κ α kv enc b m done (A::R):=⟨(h.perm.cons A).trans (List.Perm.swap _ _ _)⟩
section mapsP
variable {κ α:Type}
theorem Sat.gmap_parts {θ:Th} {kv:κ→Value} {enc:α→Value} {b:Nat} {m:List (κ×α)} {L:List HP} {w:World} (s:Sat θ (gmap kv enc b m::L) w) :
  ∃ es clock,es.toList.map (fun e=>(e.key,e.val))=m.map (fun p=>(kv p.1,enc p.2))∧(m.map (·.1)).Nodup∧es.size≤clock∧(∀ e∈es,e.born<clock)∧(es.toList.map (·.born)).Nodup∧Sat θ (own b (.map es clock)::L) w:=by
 obtain ⟨ok,ι,h,a,b1,c,ι₀,h₁,h₂,d1,d2,d3,d4,⟨es,clock,e1,e2,e3,e4,e5,e6⟩,d6⟩:=s
 exact ⟨es,clock,e2,e3,e4,e5,e6,ok,ι,h,a,b1,c,ι₀,h₁,h₂,d1,d2,d3,d4,e1,d6⟩
theorem Sat.a8 {θ:Th} {kv:κ→Value} {enc:α→Value} {b:Nat} {m:List (κ×α)} {L:List HP} {w:World} {es:Array MapEntry} {clock:Nat} (s:Sat θ (own b (.map es clock)::L) w)
  (h1:es.toList.map (fun e=>(e.key,e.val))=m.map (fun p=>(kv p.1,enc p.2))) (h2:(m.map (·.1)).Nodup) (h3:es.size≤clock) (h4:∀ e∈es,e.born<clock) (h5:(es.toList.map (·.born)).Nodup):Sat θ (gmap kv enc b m::L) w:=by
 obtain ⟨ok,ι,h,a,b1,c,ι₀,h₁,h₂,d1,d2,d3,d4,d5,d6⟩:=s
 exact ⟨ok,ι,h,a,b1,c,ι₀,h₁,h₂,d1,d2,d3,d4,⟨es,clock,d5,h1,h2,h3,h4,h5⟩,d6⟩
theorem fH {kv:κ→Value} {enc:α→Value} {b:Nat} {m:List (κ×α)} {L R:List HP} [hp:PickG L b κ α kv enc m R]:∀ θ R w,Sat θ (L++R) w→(m.map (·.1)).Nodup:=fun θ R w s=>by
 obtain ⟨es,clock,e1,e2,_⟩:=(s.perm (hp.perm.append_right R)).gmap_parts
 exact e2
end mapsP
section maps
variable {κ α:Type} [DecidableEq κ]
def gins (m:List (κ×α)) (k:κ) (a:α):List (κ×α):=if m.any (fun p=>p.1 == k) then m.map (fun p=>if p.1=k then (k,a) else p) else m++[(k,a)]
def gera (m:List (κ×α)) (k:κ):List (κ×α):=m.filter (fun p=>!(p.1 == k))
theorem qY {m:List (κ×α)} {k:κ}:(m.map (·.1)).findIdx? (fun q=>q == k)=m.findIdx? (fun p=>p.1 == k):=by
 induction m with
 | nil=>rfl
 | cons p m ih=>simp only [List.map_cons,List.findIdx?_cons,ih]
theorem lF {m:List (κ×α)} {k:κ}:(m.findIdx? (fun p=>p.1 == k)).bind (fun j=>m[j]?.map (·.2))=m.lookup k:=by
 induction m with
 | nil=>simp
 | cons p m ih =>
  obtain ⟨q,x⟩:=p
  simp only [List.findIdx?_cons,List.lookup_cons]
  by_cases hk:k=q
  ·subst hk;simp
  ·have hb:(k == q)=false:=by simpa using hk
   have hb' : (q == k)=false:=by simpa using fun h=>hk h.symm
   simp only [hb,hb',← ih]
   cases List.findIdx? (fun p=>p.1 == k) m<;>simp
theorem mK {P:Program} {K:TypeId} {kv:κ→Value} [hk:KeyT P K kv] {enc:α→Value} {es:Array MapEntry} {m:List (κ×α)} (k:κ) (w:World) (he:es.toList.map (fun e=>(e.key,e.val))=m.map (fun p=>(kv p.1,enc p.2))) :
  (Instr.findKey K (kv k) es.toList).run P w=.ok ((m.findIdx? (fun p=>p.1 == k)).bind fun j=>(m[j]?).map fun p=>(j,enc p.2)) w:=by
 have h1:es.toList.map (·.key)=(m.map (·.1)).map kv:=by
  have:=congrArg (List.map Prod.fst) he
  simpa [List.map_map,Function.comp_def] using this
 rw [hk.find k es.toList (m.map (·.1)) w h1,qY]
 congr 1
 cases m.findIdx? (fun p=>p.1 == k) with
 | none=>rfl
 | some j =>
  simp only [Option.bind_some]
  have h2:=congrArg (fun l=>l[j]?) he
  simp only [List.getElem?_map] at h2
  cases hq:es.toList[j]? with
  | none =>
   rw [hq] at h2
   cases hm:m[j]? with
   | none=>rfl
   | some p=>rw [hm] at h2;simp at h2
  | some q =>
   rw [hq] at h2
   cases hm:m[j]? with
   | none=>rw [hm] at h2;simp at h2
   | some p=>rw [hm] at h2;simp at h2;simp [h2.2]
theorem sT {m:List (κ×α)} {k:κ} {a:α} (h:(m.map (·.1)).Nodup):((gins m k a).map (·.1)).Nodup:=by
 unfold gins
 split
 ·rw [List.map_map]
  have:(fun p:κ×α=>(if p.1=k then (k,a) else p).1)=(·.1):=by
   funext p;split
   ·rename_i h;exact h.symm
   ·rfl
  show ((m.map ((·.1) ∘ fun p=>if p.1=k then (k,a) else p))).Nodup
  rw [show ((·.1) ∘ fun p:κ×α=>if p.1=k then (k,a) else p)=(fun p:κ×α=>(if p.1=k then (k,a) else p).1) from rfl,this]
  exact h
 ·rename_i hn
  rw [List.map_append,List.nodup_append]
  refine ⟨h,by simp,?_⟩
  intro x hx y hy
  simp at hy
  subst hy
  rintro rfl
  apply hn
  obtain ⟨p,hp,rfl⟩:=List.mem_map.1 hx
  exact List.any_eq_true.2 ⟨p,hp,by simp⟩
theorem gz {k:κ} {a:α}:∀ {m:List (κ×α)} {j:Nat},(m.map (·.1)).Nodup→m.findIdx? (fun p=>p.1 == k)=some j→m.map (fun p=>if p.1=k then (k,a) else p)=m.set j (k,a)
 | [],j,_,h=>by simp at h
 | p::m,j,hn,h=>by
  simp only [List.map_cons,List.nodup_cons] at hn
  rw [List.findIdx?_cons] at h
  by_cases hk:p.1=k
  ·simp [hk] at h
   subst h
   simp only [List.map_cons,hk,if_true,List.set_cons_zero,List.cons.injEq,true_and]
   rw [List.map_congr_left (g:=id),List.map_id]
   intro q hq
   have:q.1≠k:=fun e=>hn.1 (by rw [hk,← e];exact List.mem_map_of_mem hq)
   simp [this]
  ·have hb:(p.1 == k)=false:=by simpa using hk
   simp only [hb] at h
   obtain ⟨i,hi,rfl⟩:=Option.map_eq_some_iff.1 h
   simp only [List.map_cons,hk,if_false,List.set_cons_succ,List.cons.injEq,true_and]
   exact gz hn.2 hi
theorem vu {k:κ}:∀ {m:List (κ×α)} {j:Nat},(m.map (·.1)).Nodup→m.findIdx? (fun p=>p.1 == k)=some j→gera m k=m.eraseIdx j
 | [],j,_,h=>by simp at h
 | p::m,j,hn,h=>by
  simp only [List.map_cons,List.nodup_cons] at hn
  rw [List.findIdx?_cons] at h
  by_cases hk:p.1=k
  ·simp [hk] at h
   subst h
   simp only [gera,List.filter_cons,hk,beq_self_eq_true,Bool.not_true,Bool.false_eq_true,if_false,List.eraseIdx_zero,List.tail_cons]
   apply List.filter_eq_self.2
   intro q hq
   have:q.1≠k:=fun e=>hn.1 (by rw [hk,← e];exact List.mem_map_of_mem hq)
   simp [this]
  ·have hb:(p.1 == k)=false:=by simpa using hk
   simp only [hb] at h
   obtain ⟨i,hi,rfl⟩:=Option.map_eq_some_iff.1 h
   have ih:=vu hn.2 hi
   simp only [gera,List.filter_cons,hb,Bool.not_false,if_true,List.eraseIdx_cons_succ,List.cons.injEq,true_and]
   exact ih
theorem fc {m:List (κ×α)} {k q:κ} {a:α}:(gins m k a).lookup q=if q=k then some a else m.lookup q:=by
 unfold gins
 split
 ·rename_i h
  induction m with
  | nil=>simp at h
  | cons p m ih =>
   obtain ⟨r,x⟩:=p
   simp only [List.map_cons,List.lookup_cons]
   by_cases hr:r=k
   ·subst hr
    simp only [if_true,List.lookup_cons]
    by_cases hq:q=r
    ·subst hq;simp
    ·have hb:(q == r)=false:=by simpa using hq
     simp only [hb,hq,if_false]
     by_cases hm:m.any (fun p=>p.1 == r)=true
     ·have:=ih hm;simp only [hq,if_false] at this;exact this
     ·rw [List.map_congr_left (g:=id),List.map_id]
      intro p hp
      have:p.1≠r:=fun e=>hm (List.any_eq_true.2 ⟨p,hp,by simp [e]⟩)
      simp [this]
   ·have hm:m.any (fun p=>p.1 == k)=true:=by
     simp only [List.any_cons] at h
     have:(r == k)=false:=by simpa using hr
     simpa [this] using h
    simp only [hr,if_false,List.lookup_cons]
    by_cases hq:q=r
    ·subst hq;simp [hr]
    ·have hb:(q == r)=false:=by simpa using hq
     simp only [hb]
     exact ih hm
 ·rename_i h
  rw [List.lookup_append]
  by_cases hq:q=k
  ·subst hq
   have:m.lookup q=none:=by
    rw [← lF]
    have:m.findIdx? (fun p=>p.1 == q)=none:=by
     rw [List.findIdx?_eq_none_iff]
     intro p hp
     simp only [Bool.not_eq_true] at h
     have:=List.any_eq_false.1 h p hp
     simpa using this
    simp [this]
   simp [this]
  ·have hb:(q == k)=false:=by simpa using hq
   simp [List.lookup_cons,hb,hq]
theorem xV {m:List (κ×α)} {k q:κ}:(gera m k).lookup q=if q=k then none else m.lookup q:=by
 induction m with
 | nil=>simp [gera]
 | cons p m ih =>
  obtain ⟨r,x⟩:=p
  simp only [gera,List.filter_cons] at ih ⊢
  by_cases hr:r=k
  ·subst hr
   simp only [beq_self_eq_true,Bool.not_true,Bool.false_eq_true,if_false,ih,List.lookup_cons]
   by_cases hq:q=r
   ·subst hq;simp
   ·have hb:(q == r)=false:=by simpa using hq
    simp [hb,hq]
  ·have hb:(r == k)=false:=by simpa using hr
   simp only [hb,Bool.not_false,if_true,List.lookup_cons]
   by_cases hq:q=r
   ·subst hq;simp [hr]
   ·have hb2:(q == r)=false:=by simpa using hq
    simp only [hb2]
    exact ih
theorem gw {m:List (κ×α)} {k:κ} {a:α} (h:m.lookup k=some a):(k,a)∈m:=by
 induction m with
 | nil=>cases h
 | cons p m ih =>
  obtain ⟨q,x⟩:=p
  rw [List.lookup_cons] at h
  by_cases hk:k=q
  ·subst hk;simp at h;subst h;exact List.mem_cons_self ..
  ·have hb:(k == q)=false:=by simpa using hk
   simp only [hb] at h
   exact List.mem_cons_of_mem _ (ih h)
theorem dz {m:List (κ×α)} (hn:(m.map (·.1)).Nodup) {k:κ} {a:α} (h:(k,a)∈m):m.lookup k=some a:=by
 induction m with
 | nil=>cases h
 | cons p m ih =>
  obtain ⟨q,x⟩:=p
  simp only [List.map_cons,List.nodup_cons] at hn
  rw [List.lookup_cons]
  rcases List.mem_cons.1 h with e|h'
  ·simp only [Prod.mk.injEq] at e;obtain ⟨rfl,rfl⟩:=e;simp
  ·have:k≠q:=fun e=>hn.1 (by rw [← e];exact List.mem_map_of_mem (f:=(·.1)) h')
   have hb:(k == q)=false:=by simpa using this
   simp only [hb]
   exact ih hn.2 h'
end maps
section ops
variable {P:Program} {L:List HP} {env:Env} {ty:TypeId} {κ α:Type}
class TyG (P:Program) (T:Nat) (K E:outParam Nat) (z:outParam Value):Prop where
 under:P.underlying T=some (.map K E)
 zero:(P.info? E).map (·.zero)=some (some z)
theorem Ef.c7 {t K E:TypeId} {z:Value} {o:Option Operand} [ht:TyG P t K E z] (kv:κ→Value) (enc:α→Value) (ho:o=none∨∃ x k n,o=some x∧evE env x=some (.int k n)∧0≤n):Ef P L env (.makeMap t o) ty (fun v L'=>∃ b,v=.map (some b)∧L' = gmap kv enc b []::L) :=
 Ef.val (fun θ R a w ea s dst pos af g=>⟨_,w.alloc (.map #[] 0),_,by
  rcases ho with rfl|⟨x,k,n,rfl,hx,hn⟩
  ·simp [execOp,Instr.makeMap]
  ·simp [execOp,Instr.makeMap,ao ea hx,run_underlying ht.under,asInt,asIntOf],⟨_,rfl,rfl⟩,Sat.a8 s.alloc (by simp) (by simp) (by simp) (by simp) (by simp)⟩)
variable [DecidableEq κ]
theorem Ev.w7 {t:TypeId} {x y:Operand} {b K E:Nat} {z kval:Value} {kv:κ→Value} {enc:α→Value} {m:List (κ×α)} {Rest:List HP} {k:κ} [ht:TyG P t K E z] [hk:KeyT P K kv] [hp:PickG L b κ α kv enc m Rest] (hx:evE env x=some (.map (some b))) (hy:evE env y=some kval) [hkv:KeyVal kv kval k] (ok:Bool) :
  Ev P L env (.lookup t x y ok) ty (if ok then .tuple #[((m.lookup k).map enc).getD z,.bool (m.lookup k).isSome] else ((m.lookup k).map enc).getD z) :=
 Ev.mk (fun θ R _ w ea s _ _ _ _=>by
  obtain rfl:=hkv.eq
  obtain ⟨es,clock,e1,e2,e3,e4,e5,s2⟩:=(s.perm (hp.perm.append_right R)).gmap_parts
  have hb:=s2.own_heap
  have hf:=mK (P:=P) (K:=K) k w e1
  have hget:(getObj b).run P w=.ok (.map es clock) w:=by simp [getObj,Sem.run,hb]
  have h3:=ht.zero
  rw [← lF]
  cases hi:P.info? E with
  | none=>rw [hi] at h3;cases h3
  | some i =>
   rw [hi] at h3
   simp at h3
   cases hj:m.findIdx? (fun p=>p.1 == k) with
   | none =>
    rw [hj] at hf
    simp [execOp,ao ea hx,ao ea hy,Instr.lookup,run_underlying ht.under,hget,hk.check,hf,zeroValue,typeInfo,hi,h3]
   | some j =>
    have hlt:=(List.findIdx?_eq_some_iff_getElem.1 hj).1
    rw [hj] at hf
    simp [List.getElem?_eq_getElem hlt] at hf
    simp [execOp,ao ea hx,ao ea hy,Instr.lookup,run_underlying ht.under,hget,hk.check,hf,List.getElem?_eq_getElem hlt])
theorem Ev.c7 {t:TypeId} {x y:Operand} {b K E:Nat} {z kval:Value} {kv:κ→Value} {enc:α→Value} {m:List (κ×α)} {Rest:List HP} {k:κ} [ht:TyG P t K E z] [hk:KeyT P K kv] [hp:PickG L b κ α kv enc m Rest] (hx:evE env x=some (.map (some b))) (hy:evE env y=some kval) [hkv:KeyVal kv kval k] :
  Ev P L env (.lookup t x y false) ty (((m.lookup k).map enc).getD z):=by
 have:=Ev.w7 (P:=P) (L:=L) (ty:=ty) (t:=t) hx hy false
 simpa using this
theorem Ev.t6 {t:TypeId} {x y:Operand} {b K E:Nat} {z kval:Value} {kv:κ→Value} {enc:α→Value} {m:List (κ×α)} {Rest:List HP} {k:κ} [ht:TyG P t K E z] [hk:KeyT P K kv] [hp:PickG L b κ α kv enc m Rest] (hx:evE env x=some (.map (some b))) (hy:evE env y=some kval) [hkv:KeyVal kv kval k] :
  Ev P L env (.lookup t x y true) ty (.tuple #[((m.lookup k).map enc).getD z,.bool (m.lookup k).isSome]):=by
 have:=Ev.w7 (P:=P) (L:=L) (ty:=ty) (t:=t) hx hy true
 simpa using this
theorem Ef.e9 {t:TypeId} {x y z' : Operand} {b K E:Nat} {z v kval:Value} {kv:κ→Value} {enc:α→Value} {m:List (κ×α)} {Rest:List HP} {k:κ} (e:α) [ht:TyG P t K E z] [hk:KeyT P K kv] [hp:PickG L b κ α kv enc m Rest] (hx:evE env x=some (.map (some b))) (hy:evE env y=some kval) (hz:evE env z' = some v) [hkv:KeyVal kv kval k] (hv:v=enc e)
  : Ef P L env (.mapUpdate t x y z') ty (fun _ L'=>L' = gmap kv enc b (gins m k e)::Rest) :=
 Ef.skip (fun θ R a w ea s dst pos af g=>by
  subst hv;obtain rfl:=hkv.eq
  obtain ⟨es,clock,e1,e2,e3,e4,e5,s2⟩:=(s.perm (hp.perm.append_right R)).gmap_parts
  have hb:=s2.own_heap
  have hf:=mK (P:=P) (K:=K) k w e1
  have hget:(getObj b).run P w=.ok (.map es clock) w:=by simp [getObj,Sem.run,hb]
  have hkn:=sT (k:=k) (a:=e) e2
  cases hj:m.findIdx? (fun p=>p.1 == k) with
  | none =>
   rw [hj] at hf
   simp only [Option.bind_none] at hf
   have hna:m.any (fun p=>p.1 == k)=false:=by
    rw [List.findIdx?_eq_none_iff] at hj
    simpa using hj
   refine ⟨_,_,?_,rfl,Sat.a8 (s2.setMap (o':=.map (es.push { key:=kv k,val:=enc e,born:=clock }) (clock+1))) ?_ hkn ?_ ?_ ?_⟩
   ·simp [execOp,ao ea hx,ao ea hy,ao ea hz,Instr.mapUpdate,run_underlying ht.under,hget,hk.check,hf,eB hb]
   ·simp [e1,gins,hna]
   ·simp;omega
   ·intro x hx
    rcases Array.mem_push.1 hx with hx|rfl
    ·have:=e4 x hx;omega
    ·simp
   ·simp only [Array.toList_push,List.map_append,List.map_cons,List.map_nil]
    rw [List.nodup_append]
    refine ⟨e5,by simp,?_⟩
    intro x hx y hy
    simp at hy
    subst hy
    obtain ⟨q,hq,rfl⟩:=List.mem_map.1 hx
    have:=e4 q (by simpa using hq)
    omega
  | some j =>
   have hany:m.any (fun p=>p.1 == k)=true:=by
    obtain ⟨hlt,h1,_⟩:=List.findIdx?_eq_some_iff_getElem.1 hj
    exact List.any_eq_true.2 ⟨m[j],List.getElem_mem hlt,h1⟩
   have hset:=gz (a:=e) e2 hj
   obtain ⟨hjlt,hjk,_⟩:=List.findIdx?_eq_some_iff_getElem.1 hj
   rw [hj] at hf
   simp [List.getElem?_eq_getElem hjlt] at hf
   have hsz:es.size=m.length:=by
    have:=congrArg List.length e1
    simpa using this
   have hkey:((es[j]?).map (·.key)).getD (kv k)=kv k:=by
    have h5:=congrArg (fun l=>l[j]?) e1
    simp only [List.getElem?_map,List.getElem?_eq_getElem hjlt,Array.getElem?_toList] at h5
    rw [Array.getElem?_eq_getElem ab] at h5 ⊢
    simp at h5 ⊢
    rw [h5.1]
    simp at hjk
    rw [hjk]
   have hst:(Instr.keyThatStays (((es[j]?).map (·.key)).getD (kv k)) (kv k)).run P w=.ok (kv k) w:=by
    rw [hkey]
    simp [Instr.keyThatStays,hk.bits]
   refine ⟨_,_,?_,rfl,Sat.a8 (s2.setMap (o':=.map (es.modify j fun x=>{ x with key:=kv k,val:=enc e }) clock)) ?_ hkn ?_ ?_ ?_⟩
   ·simp [execOp,ao ea hx,ao ea hy,ao ea hz,Instr.mapUpdate,run_underlying ht.under,hget,hk.check,hf,hst,eB hb]
   ·simp only [gins,hany,if_true,hset]
    rw [Array.toList_modify]
    apply List.ext_getElem?
    intro i
    have h5:=congrArg (fun l=>l[i]?) e1
    simp only [List.getElem?_map] at h5
    simp only [List.getElem?_map,List.getElem?_modify,List.getElem?_set]
    by_cases hij:j=i
    ·subst hij
     have hlt:j<es.toList.length:=by simp;omega
     simp [hjlt,List.getElem?_eq_getElem hlt]
    ·simp only [hij,if_false]
     cases hq:es.toList[i]? with
     | none=>rw [hq] at h5;simpa using h5
     | some q=>rw [hq] at h5;simpa using h5
   ·simpa using e3
   ·intro x hx
    obtain ⟨i,hi,rfl⟩:=Array.mem_iff_getElem.1 hx
    rw [Array.getElem_modify]
    have h6:es[i]'(by simpa using hi)∈es:=Array.getElem_mem _
    split
    ·exact e4 (es[i]'(by simpa using hi)) h6
    ·exact e4 _ h6
   ·have:(es.modify j fun x=>{ x with key:=kv k,val:=enc e }).toList.map (·.born)=es.toList.map (·.born):=by
     rw [Array.toList_modify]
     apply List.ext_getElem?
     intro i
     simp only [List.getElem?_map,List.getElem?_modify]
     by_cases hij:j=i
     ·subst hij;cases es.toList[j]?<;>simp
     ·simp [hij]
    rw [this]
    exact e5)
theorem Ef.k5 {t kt:TypeId} {x y:Operand} {b K E:Nat} {z kval:Value} {kv:κ→Value} {enc:α→Value} {m:List (κ×α)} {Rest:List HP} {k:κ} [ht:TyG P t K E z] [hk:KeyT P K kv] [hp:PickG L b κ α kv enc m Rest] (hx:evE env x=some (.map (some b))) (hy:evE env y=some kval) [hkv:KeyVal kv kval k]
  : Ef P L env (.call { callee:=.builtin .delete,args:=#[x,y],argTypes:=#[t,kt] }) ty (fun _ L'=>L' = gmap kv enc b (gera m k)::Rest) :=
 Ef.val (fun θ R a w ea s dst pos af g=>by
  obtain rfl:=hkv.eq
  obtain ⟨es,clock,e1,e2,e3,e4,e5,s2⟩:=(s.perm (hp.perm.append_right R)).gmap_parts
  have hb:=s2.own_heap
  have hf:=mK (P:=P) (K:=K) k w e1
  have hget:(getObj b).run P w=.ok (.map es clock) w:=by simp [getObj,Sem.run,hb]
  have hkn:((gera m k).map (·.1)).Nodup:=e2.sublist ((List.filter_sublist).map _)
  have hsz:es.size=m.length:=by
   have:=congrArg List.length e1
   simpa using this
  cases hj:m.findIdx? (fun p=>p.1 == k) with
  | none =>
   rw [hj] at hf
   simp only [Option.bind_none] at hf
   have hall:=List.findIdx?_eq_none_iff.1 hj
   have he:gera m k=m:=List.filter_eq_self.2 fun p hp=>by simp [hall p hp]
   refine ⟨.tuple #[],_,_,?_,rfl,Sat.a8 (s2.setMap (o':=.map es clock)) (by rw [he];exact e1) hkn e3 e4 e5⟩
   simp [execOp,resolve,invoke,builtin,ao ea hx,ao ea hy,Builtin.delete_,run_underlying ht.under,hget,hk.check,hf,eB hb]
  | some j =>
   have hera:=vu e2 hj
   obtain ⟨hjlt,hjk,_⟩:=List.findIdx?_eq_some_iff_getElem.1 hj
   rw [hj] at hf
   simp [List.getElem?_eq_getElem hjlt] at hf
   have htl:(es.eraseIdxIfInBounds j).toList=es.toList.eraseIdx j:=by
    simp [Array.eraseIdxIfInBounds,show j<es.size by omega]
   refine ⟨.tuple #[],_,_,?_,rfl,Sat.a8 (s2.setMap (o':=.map (es.eraseIdxIfInBounds j) clock)) ?_ hkn ?_ ?_ ?_⟩
   ·simp [execOp,resolve,invoke,builtin,ao ea hx,ao ea hy,Builtin.delete_,run_underlying ht.under,hget,hk.check,hf,eB hb]
   ·rw [htl,hera,gN,gN,e1]
   ·have h7:(es.eraseIdxIfInBounds j).size=(es.toList.eraseIdx j).length:=by rw [← htl,Array.length_toList]
    have h8:(es.toList.eraseIdx j).length≤es.toList.length:=List.length_eraseIdx_le es.toList j
    have h9:es.toList.length=es.size:=Array.length_toList
    omega
   ·intro x hx
    have:x∈es.toList.eraseIdx j:=by rw [← htl];exact Array.mem_toList_iff.2 hx
    exact e4 x (by simpa using List.mem_of_mem_eraseIdx this)
   ·rw [htl,gN]
    exact e5.sublist (List.eraseIdx_sublist _ _))
end ops
section ranges
variable {P:Program} {L:List HP} {env:Env} {ty:TypeId} {κ α:Type} {kv:κ→Value} {enc:α→Value}
theorem Sat.it_parts {θ:Th} {b r:Nat} {m done:List (κ×α)} {L:List HP} {w:World} (s:Sat θ (dd kv enc b m r done::L) w) :
  ∃ x:Array MapEntry×Nat×Array Nat×List Nat,itOk kv enc m done x∧Sat θ (own b (.map x.1 x.2.1)::own r (.mapIter (some b) x.2.1 x.2.2.1 x.2.1)::L) w:=by
 obtain ⟨x,s⟩:=s.ofHex
 have s2:=s.ofStars
 simp only [List.cons_append,List.nil_append] at s2
 exact ⟨x,s2.ofPure,s2.tail⟩
theorem Sat.c8 {θ:Th} {b r:Nat} {m done:List (κ×α)} {L:List HP} {w:World} (x:Array MapEntry×Nat×Array Nat×List Nat) (hx:itOk kv enc m done x) (s:Sat θ (own b (.map x.1 x.2.1)::own r (.mapIter (some b) x.2.1 x.2.2.1 x.2.1)::L) w) :
  Sat θ (dd kv enc b m r done::L) w:=Sat.c7 x (Sat.a6 (A:=[bK (itOk kv enc m done x),own b (.map x.1 x.2.1),own r (.mapIter (some b) x.2.1 x.2.2.1 x.2.1)]) (s.addPure hx))
theorem Ef.g7 {t K E:TypeId} {z:Value} {x:Operand} {b:Nat} {m:List (κ×α)} {Rest:List HP} [ht:TyG P t K E z] [hp:PickG L b κ α kv enc m Rest] (hx:evE env x=some (.map (some b))) :
  Ef P L env (.range t x) ty (fun v L'=>∃ r,v=.pointer (some ⟨r,0,none⟩)∧L' = dd kv enc b m r []::Rest) :=
 Ef.val (fun θ R a w ea s dst pos af g=>by
  obtain ⟨es,clock,e1,e2,e3,e4,e5,s2⟩:=(s.perm (hp.perm.append_right R)).gmap_parts
  have hb:=s2.own_heap
  have hget:(getObj b).run P w=.ok (.map es clock) w:=by simp [getObj,Sem.run,hb]
  refine ⟨_,w.alloc (.mapIter (some b) clock #[] clock),_,?_,⟨w.heap.size,rfl,rfl⟩,?_⟩
  ·simp [execOp,Instr.range,ao ea hx,run_underlying ht.under,hget]
  ·refine Sat.c8 (es,clock,#[],[]) ⟨e1,e2,e3,e4,e5,by simp,by simp,by simp,by simp⟩ ?_
   exact (Sat.alloc s2).perm (List.Perm.swap _ _ _))
theorem tB {n:Nat} {js:List Nat} (h1:js.Nodup) (h2:∀ j∈js,j<n) (h3:∀ j,j<n→j∈js):js.Perm (List.range n) :=
 (List.perm_ext_iff_of_nodup h1 List.nodup_range).2 fun j=>⟨fun h=>List.mem_range.2 (h2 j h),fun h=>h3 j (List.mem_range.1 h)⟩
theorem qC {β:Type} (m:List β):(List.range m.length).filterMap (fun j=>m[j]?)=m:=by
 induction m with
 | nil=>rfl
 | cons x m ih =>
  rw [List.length_cons,List.range_succ_eq_map]
  simp only [List.filterMap_cons,List.getElem?_cons_zero,List.filterMap_map,Function.comp_def,List.getElem?_cons_succ,Nat.succ_eq_add_one]
  rw [ih]
theorem jT {β:Type} {m:List β}:∀ {js:List Nat},(∀ j∈js,j<m.length)→(js.filterMap (fun j=>m[j]?)).length=js.length
 | [],_=>rfl
 | j::js,h=>by
  rw [List.filterMap_cons,List.getElem?_eq_getElem (h j (List.mem_cons_self ..))]
  simp only [List.length_cons,jT fun i hi=>h i (List.mem_cons_of_mem _ hi)]
theorem iF:∀ {n:Nat} {js:List Nat},js.Nodup→(∀ j∈js,j<n)→js.length≤n
 | 0,js,_,h2=>by
  cases js with
  | nil=>simp
  | cons j js=>exact absurd (h2 j (List.mem_cons_self ..)) ab
 | n+1,js,h1,h2=>by
  have ih:=iF (n:=n) (js:=js.erase n) (h1.erase n) (fun j hj=>by
   have h3:=(List.Nodup.mem_erase_iff h1).1 hj
   have:=h2 j h3.2
   omega)
  have:=List.length_erase (a:=n) (l:=js)
  split at this<;>omega
theorem vj {b r:Nat} {m done:List (κ×α)} {Rest:List HP} [hp:PickIt L r κ α kv enc b m done Rest]:∀ θ R w,Sat θ (L++R) w→(m.map (·.1)).Nodup∧(∀ p∈done,p∈m)∧done.length≤m.length:=fun θ R w s=>by
 obtain ⟨x,⟨e1,e2,e3,e4,e5,j1,j2,j3,j4⟩,s2⟩:=(s.perm (hp.perm.append_right R)).it_parts
 refine ⟨e2,?_,?_⟩
 ·intro p hp
  rw [j3] at hp
  obtain ⟨j,_,hj⟩:=List.mem_filterMap.1 hp
  exact List.mem_of_getElem? hj
 ·rw [j3,jT j2]
  exact iF j1 j2
theorem Ef.j0 {it:Operand} {b r:Nat} {m done:List (κ×α)} {Rest:List HP} [hp:PickIt L r κ α kv enc b m done Rest] (hx:evE env it=some (.pointer (some ⟨r,0,none⟩))) :
  Ef P L env (.next it false) ty (fun v L'=>(v=.tuple #[.bool false]∧L' = dd kv enc b m r done::Rest∧done.Perm m)∨(∃ p,v=.tuple #[.bool true,kv p.1,enc p.2]∧L' = dd kv enc b m r (done++[p])::Rest∧p∈m∧p∉done∧done.length<m.length)) :=
 Ef.val (fun θ R a w ea s dst pos af g=>by
  obtain ⟨⟨es,clock,seen,js⟩,⟨e1,e2,e3,e4,e5,j1,j2,j3,j4⟩,s2⟩:=(s.perm (hp.perm.append_right R)).it_parts
  dsimp only at e1 e3 e4 e5 j1 j2 j3 j4 s2
  have hb:=s2.own_heap
  have hr:=(s2.perm (List.Perm.swap _ _ _)).own_heap
  have hsz:es.size=m.length:=by
   have:=congrArg List.length e1
   simpa using this
  have hborn:∀ j,j∈js→∃ e,es[j]? = some e∧e.born∈seen:=by
   intro j hj
   have hlt:=j2 j hj
   refine ⟨es[j]'(by omega),Array.getElem?_eq_getElem ab,?_⟩
   have:(es[j]'(by omega)).born∈seen.toList:=by
    rw [j4]
    exact List.mem_filterMap.2 ⟨j,hj,by simp [Array.getElem?_eq_getElem (show j<es.size by omega)]⟩
   simpa using this
  have hseen:∀ x∈seen,∃ j∈js,∃ e,es[j]? = some e∧e.born=x:=by
   intro x hx
   have:x∈seen.toList:=by simpa using hx
   rw [j4] at this
   obtain ⟨j,hj,hj2⟩:=List.mem_filterMap.1 this
   obtain ⟨e,he,he2⟩:=Option.map_eq_some_iff.1 hj2
   exact ⟨j,hj,e,he,he2⟩
  have hinj:∀ (i j:Nat) (hi:i<es.size) (hj:j<es.size),es[i].born=es[j].born→i=j:=by
   intro i j hi hj he
   have h1:(es.toList.map (·.born))[i]'(by simpa using hi)=(es.toList.map (·.born))[j]'(by simpa using hj):=by simpa using he
   exact (List.getElem_inj e5).1 h1
  have hpm:∀ (j:Nat) (hj:j<es.size),es[j].key=kv (m[j]'(by omega)).1∧es[j].val=enc (m[j]'(by omega)).2:=by
   intro j hj
   have h5:=congrArg (fun l=>l[j]?) e1
   simp only [List.getElem?_map,Array.getElem?_toList,Array.getElem?_eq_getElem hj,List.getElem?_eq_getElem (show j<m.length by omega)] at h5
   simpa using h5
  rcases run_next_at (P:=P) w ty r b clock clock seen es clock hr hb (fun x hx=>e4 x (by simpa using hx)) (Nat.le_refl _) with ⟨h0,hrun⟩|⟨e,he,w1,hw1,hrun⟩
  ·refine ⟨_,w,_,?_,.inl ⟨rfl,rfl,?_⟩,Sat.c8 (es,clock,seen,js) ⟨e1,e2,e3,e4,e5,j1,j2,j3,j4⟩ s2⟩
   ·simp [execOp,ao ea hx,hrun]
   ·have hcov:∀ j,j<m.length→j∈js:=by
     intro j hj
     have hl:es[j]'(by omega)∉leftOf es seen:=by
      have:leftOf es seen=#[]:=Array.eq_empty_of_size_eq_zero h0
      rw [this];simp
     simp only [leftOf,Array.mem_filter,not_and] at hl
     have h1:=hl (Array.getElem_mem _)
     have h2:(es[j]'(by omega)).born∈seen:=by simpa using h1
     obtain ⟨i,hi,e,he,he2⟩:=hseen _ h2
     have hilt:=j2 i hi
     rw [Array.getElem?_eq_getElem ab] at he
     simp only [Option.some.injEq] at he
     rw [← he] at he2
     rw [← hinj i j ab ab he2]
     exact hi
    rw [j3]
    exact ((tB j1 j2 hcov).filterMap _).trans (by rw [qC])
  ·have he' : e∈es∧e.born∉seen:=by
    have:e∈leftOf es seen:=by simpa using he
    simp only [leftOf,Array.mem_filter] at this
    exact ⟨this.1,by simpa using this.2⟩
   obtain ⟨j,hj,rfl⟩:=Array.mem_iff_getElem.1 he'.1
   have hjn:j∉js:=by
    intro hjs
    obtain ⟨e,h1,h2⟩:=hborn j hjs
    rw [Array.getElem?_eq_getElem hj] at h1
    simp only [Option.some.injEq] at h1
    rw [← h1] at h2
    exact he'.2 h2
   have hjm:j<m.length:=ab
   have hpn:m[j]∉done:=by
    rw [j3]
    intro hmem
    obtain ⟨i,hi,hi2⟩:=List.mem_filterMap.1 hmem
    have hilt:=j2 i hi
    rw [List.getElem?_eq_getElem hilt] at hi2
    simp only [Option.some.injEq] at hi2
    have h1:(m.map (·.1))[i]'(by simpa using hilt)=(m.map (·.1))[j]'(by simpa using hjm):=by simp [hi2]
    have:=(List.getElem_inj e2).1 h1
    exact hjn (this▸hi)
   have hk:=hpm j hj
   refine ⟨_,ChangeMaps.setBlock w1 r (.mapIter (some b) clock (seen.push es[j].born) clock),_,?_,.inr ⟨m[j],rfl,rfl,List.getElem_mem _,hpn,?_⟩,Sat.c8 (es,clock,seen.push es[j].born,js++[j]) ⟨e1,e2,e3,e4,e5,?_,?_,?_,?_⟩ ?_⟩
   ·rw [← hk.1,← hk.2]
    simp [execOp,ao ea hx,hrun]
   ·rw [j3,jT j2]
    have:=iF (n:=m.length) (js:=js++[j]) (by
     rw [List.nodup_append]
     exact ⟨j1,by simp,by intro x hx y hy;simp at hy;subst hy;rintro rfl;exact hjn hx⟩) (by
     intro i hi
     rcases List.mem_append.1 hi with h|h
     ·exact j2 i h
     ·simp at h;omega)
    simp at this
    omega
   ·show (js++[j]).Nodup
    rw [List.nodup_append]
    exact ⟨j1,by simp,by intro x hx y hy;simp at hy;subst hy;rintro rfl;exact hjn hx⟩
   ·intro i hi
    rcases List.mem_append.1 hi with h|h
    ·exact j2 i h
    ·simp at h;omega
   ·simp [j3,List.filterMap_append,List.getElem?_eq_getElem hjm]
   ·simp [j4,List.filterMap_append,Array.getElem?_eq_getElem hj]
   ··have s3:Sat θ (own r (.mapIter (some b) clock seen clock)::own b (.map es clock)::(Rest++R)) w1:=by
      rcases hw1 with rfl|rfl
      ·exact s2.perm (List.Perm.swap _ _ _)
      ·exact (Sat.drew s2).perm (List.Perm.swap _ _ _)
     exact (Sat.setMap (o':=.mapIter (some b) clock (seen.push es[j].born) clock) s3).perm (List.Perm.swap _ _ _))
theorem Ev.g9 {it:Operand} {b r:Nat} {m done done' : List (κ×α)} {p:κ×α} {Rest:List HP} [hp:PickIt L r κ α kv enc b m done' Rest] (hd:done' = done++[p]) (hx:evE env it=some (.pointer (some ⟨r,0,none⟩))) :
  Ev P L env (.entry it) ty (.tuple #[kv p.1,enc p.2]) :=
 Ev.mk (fun θ R _ w ea s _ _ _ _=>by
  subst hd
  obtain ⟨⟨es,clock,seen,js⟩,⟨e1,e2,e3,e4,e5,j1,j2,j3,j4⟩,s2⟩:=(s.perm (hp.perm.append_right R)).it_parts
  dsimp only at e1 e3 e4 e5 j1 j2 j3 j4 s2
  have hb:=s2.own_heap
  have hr:=(s2.perm (List.Perm.swap _ _ _)).own_heap
  have hsz:es.size=m.length:=by
   have:=congrArg List.length e1
   simpa using this
  rcases List.eq_nil_or_concat js with rfl|⟨js',j,rfl⟩
  ·simp at j3
  ·have hjm:j<m.length:=j2 j (by simp)
   have hj:j<es.size:=ab
   rw [List.concat_eq_append] at j3 j4
   simp [List.filterMap_append,List.getElem?_eq_getElem hjm] at j3
   simp [List.filterMap_append,Array.getElem?_eq_getElem hj] at j4
   have hp3:p=m[j]:=j3.2
   have hpm:es[j].key=kv p.1∧es[j].val=enc p.2:=by
    have h5:=congrArg (fun l=>l[j]?) e1
    simp only [List.getElem?_map,Array.getElem?_toList,Array.getElem?_eq_getElem hj,List.getElem?_eq_getElem hjm] at h5
    rw [hp3]
    simpa using h5
   have hse:seen=(js'.filterMap (fun j=>(es[j]?).map (·.born))).toArray.push es[j].born:=by
    apply Array.ext'
    simp [j4]
   rw [hse] at hr
   have:=run_entry_at (P:=P) w r b clock _ es clock es[j] hr hb (by simp) e5
   rw [hpm.1,hpm.2] at this
   simp [execOp,ao ea hx,this])
theorem Ent.itEnd {b r:Nat} {m done:List (κ×α)}:Ent (dd kv enc b m r done::L) (gmap kv enc b m::L):=fun θ R w s=>by
 obtain ⟨⟨es,clock,seen,js⟩,⟨e1,e2,e3,e4,e5,_⟩,s2⟩:=Sat.it_parts s
 exact Sat.a8 ((s2.perm (List.Perm.swap _ _ _)).tail) e1 e2 e3 e4 e5
end ranges
end Go.V
namespace Go.V
def gq (P:Program) (N:Nat) (rs:List ResultVar) (post:Value→List HP→Prop):Post:=Ends P N rs post
section inp
variable {P:Program} {N M:Nat} {env:Env} {L:List HP} {K:Post} {post:Value→List HP→Prop} {ops:Array Oper} {rest:List Oper} {d:Nat} {ty:TypeId} {pos:String} {af:Array Edge}
theorem KX.c7 {e:Exit} {rs:List ResultVar} (h:gq P N rs post e env L):gq P N rs post e env L:=h
theorem KX.in0 {e:Exit} (he:e=.ret∨e=.normal) (h:post (.tuple #[]) L):gq P N [] post e env L:=⟨he,fun _ _ _ s=>⟨[],L,ResOk.nil,s,h⟩⟩
theorem KX.in1 {e:Exit} {t:Nat} {v:Value} (he:e=.ret∨e=.normal) (h1:env.lookup t=some v) (h:post v L):gq P N [.tmp t] post e env L:=⟨he,fun _ _ _ s=>⟨[v],L,ResOk.tmp h1 ResOk.nil,s,h⟩⟩
theorem KX.in2 {e:Exit} {t u:Nat} {v w:Value} (he:e=.ret∨e=.normal) (h1:env.lookup t=some v) (h2:env.lookup u=some w) (h:post (.tuple #[v,w]) L):gq P N [.tmp t,.tmp u] post e env L:=⟨he,fun _ _ _ s=>⟨[v,w],L,ResOk.tmp h1 (ResOk.tmp h2 ResOk.nil),s,h⟩⟩
theorem KX.in3 {e:Exit} {t u x:Nat} {v w y:Value} (he:e=.ret∨e=.normal) (h1:env.lookup t=some v) (h2:env.lookup u=some w) (h3:env.lookup x=some y) (h:post (.tuple #[v,w,y]) L):gq P N [.tmp t,.tmp u,.tmp x] post e env L:=⟨he,fun _ _ _ s=>⟨[v,w,y],L,ResOk.tmp h1 (ResOk.tmp h2 (ResOk.tmp h3 ResOk.nil)),s,h⟩⟩
theorem KX.inC {e:Exit} {x b T n:Nat} {t:TypeId} {cs:List Value} {Rest:List HP} [ht:TyAgg P t n] [hp:PickObj L b T cs Rest] (he:e=.ret∨e=.normal) (h1:env.lookup x=some (.pointer (some ⟨b,0,none⟩))) (hn:cs.length=n) (h:post (.agg cs.toArray) L):gq P N [.cell x t] post e env L :=
 ⟨he,fun _ _ _ s=>⟨[.agg cs.toArray],L,ResOk.cell h1 hn ResOk.nil,s,h⟩⟩
theorem KX.c6 {e:Exit} {x b T n u:Nat} {t:TypeId} {cs:List Value} {w:Value} {Rest:List HP} [ht:TyAgg P t n] [hp:PickObj L b T cs Rest] (he:e=.ret∨e=.normal) (h1:env.lookup x=some (.pointer (some ⟨b,0,none⟩))) (hn:cs.length=n) (h2:env.lookup u=some w) (h:post (.tuple #[.agg cs.toArray,w]) L):gq P N [.cell x t,.tmp u] post e env L :=
 ⟨he,fun _ _ _ s=>⟨[.agg cs.toArray,w],L,ResOk.cell h1 hn (ResOk.tmp h2 ResOk.nil),s,h⟩⟩
variable {f:FuncId} {fn:Func} {c:Code} {rs:List ResultVar} {xs:Array Operand} {ats:Array TypeId} {vs:List Value}
theorem GO.c6 (he:Enters P f) (hf:P.funcs[f]? = some fn) (hb:fn.body=some c) (hr:fn.results=rs.toArray) (hN:fn.ntmps=M) (hv:eJ env xs.toList=some vs) (hN' : vs.length≤M) (hd:d<N)
  (h:G P M c (env0 vs 0) L (gq P M rs (fun v L'=>GO P N ops rest ((d,v)::env) L' K))):GO P N ops (⟨some d,.call { callee:=.value (.func f),args:=xs,argTypes:=ats },ty,pos,af,none⟩::rest) env L K :=
 GO.ef (Ef.a6 (Tri.body (args:=vs) M he hf hb hr hN hN' h) hv) hd fun _ _ h=>h
theorem GPW.c6 {done:List Nat} {plan:List Stp} {pend:List PE} {i:Nat} (he:Enters P f) (hf:P.funcs[f]? = some fn) (hb:fn.body=some c) (hr:fn.results=rs.toArray) (hN:fn.ntmps=M) (hv:eJ env xs.toList=some vs) (hN' : vs.length≤M) (hd:d<N)
  (h:G P M c (env0 vs 0) L (gq P M rs (fun v L'=>GPK P N ops done i plan pend [] ((d,v)::env) L' K))):GPW P N ops done (.ef i) plan (some d) (.call { callee:=.value (.func f),args:=xs,argTypes:=ats }) ty pend env L K :=
 GPW.ef (Ef.a6 (Tri.body (args:=vs) M he hf hb hr hN hN' h) hv) hd fun _ _ h=>h
theorem Ef.d7 {x:Operand} {first cap:List Value} {post:Value→List HP→Prop} (c:Tri P f (first++vs++cap).toArray L post) (hx:evE env x=some (.func (.func f) first.toArray cap.toArray)) (hv:eJ env xs.toList=some vs) :
  Ef P L env (.call { callee:=.value x,args:=xs,argTypes:=ats }) ty post:=by
 have h:=Ef.j7 (R':=[]) (ats:=ats) (ty:=ty) c hx hv (by rw [List.append_nil];exact Ent.refl _)
 intro θ R a w o next Q ha s h1 h2 hn
 exact h θ R a w o next Q ha s h1 h2 (fun v L' w' ⟨L₁,hp,he⟩ s'=>hn v L₁ w' hp (by rw [he,List.append_nil] at s';exact s'))
theorem GO.a7 {x:Operand} {first cap:List Value} (hx:evE env x=some (.func (.func f) first.toArray cap.toArray)) (he:Enters P f) (hf:P.funcs[f]? = some fn) (hb:fn.body=some c) (hr:fn.results=rs.toArray) (hN:fn.ntmps=M) (hv:eJ env xs.toList=some vs) (hN' : (first++vs++cap).length≤M) (hd:d<N)
  (h:G P M c (env0 (first++vs++cap) 0) L (gq P M rs (fun v L'=>GO P N ops rest ((d,v)::env) L' K))):GO P N ops (⟨some d,.call { callee:=.value x,args:=xs,argTypes:=ats },ty,pos,af,none⟩::rest) env L K :=
 GO.ef (Ef.d7 (Tri.body (args:=first++vs++cap) M he hf hb hr hN hN' h) hx hv) hd fun _ _ h=>h
theorem GPW.a8 {done:List Nat} {plan:List Stp} {pend:List PE} {i:Nat} {x:Operand} {first cap:List Value} (hx:evE env x=some (.func (.func f) first.toArray cap.toArray)) (he:Enters P f) (hf:P.funcs[f]? = some fn) (hb:fn.body=some c) (hr:fn.results=rs.toArray) (hN:fn.ntmps=M) (hv:eJ env xs.toList=some vs) (hN' : (first++vs++cap).length≤M) (hd:d<N)
  (h:G P M c (env0 (first++vs++cap) 0) L (gq P M rs (fun v L'=>GPK P N ops done i plan pend [] ((d,v)::env) L' K))):GPW P N ops done (.ef i) plan (some d) (.call { callee:=.value x,args:=xs,argTypes:=ats }) ty pend env L K :=
 GPW.ef (Ef.d7 (Tri.body (args:=first++vs++cap) M he hf hb hr hN hN' h) hx hv) hd fun _ _ h=>h
theorem Ef.a8 {x:Operand} {first cap:List Value} {post:Value→List HP→Prop} (hx:evE env x=some (.func (.func f) first.toArray cap.toArray)) (hv:eJ env xs.toList=some vs) (c:Tri P f (first++vs++cap).toArray L post) :
  Ef P L env (.call { callee:=.value x,args:=xs,argTypes:=ats }) ty post:=Ef.d7 c hx hv
theorem Ef.j5 {x:Operand} {first cap:List Value} {pre R' : List HP} {post:Value→List HP→Prop} (hx:evE env x=some (.func (.func f) first.toArray cap.toArray)) (hv:eJ env xs.toList=some vs) (c:Tri P f (first++vs++cap).toArray pre post) (hL:Ent L (pre++R')) :
  Ef P L env (.call { callee:=.value x,args:=xs,argTypes:=ats }) ty (fun v L'=>∃ L₁,post v L₁∧L' = L₁++R'):=Ef.j7 c hx hv hL
end inp
end Go.V
namespace Go.V
class TyArr (P:Program) (T:Nat) (n E sz:outParam Nat):Prop where
 under:P.underlying T=some (.array n E)
 size:(P.info? E).map (·.size)=some sz
theorem TyArr.sizeOf_run {P:Program} {T n E sz:Nat} (h:TyArr P T n E sz) (w:World):(sizeOf E).run P w=.ok sz w:=by
 have h1:=h.size
 cases hi:P.info? E with
 | none=>rw [hi] at h1;cases h1
 | some i=>rw [hi] at h1;simp at h1;simp [sizeOf,typeInfo,hi,h1]
theorem Fx (a:Addr) (i j:Nat):(a.add i).add j=a.add (i+j):=by
 unfold Addr.add
 by_cases hi:i=0
 ·subst hi;simp
 ·by_cases hj:j=0
  ·subst hj;simp [hi]
  ·have:i+j≠0:=ab
   simp [hi,hj,Nat.add_assoc]
section
variable {P:Program} {N:Nat} {env:Env} {L:List HP} {ty:TypeId} {v:Value}
theorem Ev.p7 {t:TypeId} {x i:Operand} (h:Ev P L env (.index t x i) ty v):Ev P L env (.index t x i) ty v:=h
theorem Ev.k8 {t:TypeId} {x i:Operand} {b o n E sz:Nat} {j:Int} {k:IntKind} [ht:TyArr P t n E sz] (hx:evE env x=some (.pointer (some ⟨b,o,none⟩))) (hi:evE env i=some (.int k j)) (h0:0≤j) (h1:j<n) :
  Ev P L env (.indexAddr t x i) ty (.pointer (some ⟨b,o+j.toNat*sz,none⟩)) :=
 Ev.mk (fun θ R _ w ea s _ _ _ _=>by
  simp [execOp,ao ea hx,ao ea hi,Instr.indexAt,asIntOf,run_underlying ht.under,h0,h1,ht.sizeOf_run,gr,Instr.sureAddr])
theorem Ev.l6 {t:TypeId} {x i:Operand} {ad:Option Addr} {s' m o n E sz:Nat} {j:Int} {k:IntKind} {α:Type} {enc:α→List Value} {xs:List α} [ht:TyArr P t n E sz] [hr:Rds L ad α enc s' xs] (hx:evE env x=some (.pointer (elP ad s' m o))) (hi:evE env i=some (.int k j)) (hm:m<xs.length) (h0:0≤j) (h1:j<n) :
  Ev P L env (.indexAddr t x i) ty (.pointer (elP ad s' m (o+j.toNat*sz))) :=
 Ev.mk (fun θ R _ w ea s _ _ _ _=>by
  obtain ⟨_,h2⟩:=hr.rd θ R w s
  rcases h2 with h2|⟨a,rfl,_⟩
  ·subst h2;simp at hm
  ·simp [execOp,ao ea hx,ao ea hi,Instr.indexAt,asIntOf,run_underlying ht.under,h0,h1,ht.sizeOf_run,elP,Instr.sureAddr,Fx,Nat.add_assoc])
theorem AM {s:ByteArray} {i:Nat} (h:i<s.size):s[i]? = some (s.data[i]'(by simpa using h)):=by
 simp [h]
 rfl
theorem Ev.m9 {t:TypeId} {x i:Operand} {s:ByteArray} {j:Int} {k:IntKind} [ht:TyStr P t] (hx:evE env x=some (.string s)) (hi:evE env i=some (.int k j)) (h0:0≤j) (h1:j<s.size) :
  Ev P L env (.index t x i) ty (.int .u8 ((aD s)[j.toNat]!)) :=
 Ev.mk (fun θ R _ w ea st _ _ _ _=>by
  have hlt:j.toNat<s.size:=ab
  have hn:(aD s)[j.toNat]! = ((s.data[j.toNat]'(by simpa using hlt)).toNat:Int):=by
   rw [List.getElem!_eq_getElem?_getD,List.getElem?_eq_getElem (by rw [iU];exact hlt)]
   simp [aD]
  rw [hn]
  simp [execOp,ao ea hx,ao ea hi,Instr.index,asIntOf,run_underlying ht.under,h0,AM hlt])
theorem sD (s:ByteArray):∀ x∈aD s,0≤x∧x≤255:=by
 intro x hx
 simp only [aD,List.mem_map] at hx
 obtain ⟨y,_,rfl⟩:=hx
 have:=y.toNat_lt
 omega
theorem Ev.g7 {t:TypeId} {x lo hi:Operand} {s:ByteArray} {k k' : IntKind} {i j:Int} [ht:TyStr P t] (hx:evE env x=some (.string s)) (hl:evE env lo=some (.int k i)) (hh:evE env hi=some (.int k' j)) (h0:0≤i) (h1:i≤j) (h2:j≤s.size) :
  Ev P L env (.slice t x (some lo) (some hi) none) ty (.string (s.extract i.toNat j.toNat)) :=
 Ev.mk (fun θ R _ w ea st _ _ _ _=>by
  have h3:0≤j:=ab
  simp [execOp,ao ea hx,ao ea hl,ao ea hh,Instr.sliceAt,Instr.slice,Instr.sliceBounds,Instr.sliceBound,asIntOf,run_underlying ht.under,h0,h2,h3]
  intro h;exact absurd h ab)
theorem pi (s:ByteArray):s.extract 0 s.size=s:=by
 apply ByteArray.ext
 simp
end
end Go.V
namespace Go.V
def putK:Nat→List Value→List Value→(List Value→Option (List Value))→Option (List Value)
 | 0,[],z,k=>k z
 | 0,c::cs,_::z,k=>putK 0 cs z fun r=>k (c::r)
 | o+1,cs,x::z,k=>putK o cs z fun r=>k (x::r)
 | _,_,[],_=>none
theorem ou:∀ (o:Nat) (cs z:List Value) (k:List Value→Option (List Value)) (r:List Value),putK o cs z k=some r→o+cs.length≤z.length∧k (z.take o++cs++z.drop (o+cs.length))=some r
 | 0,[],z,k,r,h=>by simpa [putK] using h
 | 0,c::cs,[],k,r,h=>by simp [putK] at h
 | 0,c::cs,_::z,k,r,h=>by
  simp only [putK] at h
  have:=ou 0 cs z _ r h
  simp at this ⊢
  exact this
 | o+1,cs,[],k,r,h=>by simp [putK] at h
 | o+1,cs,x::z,k,r,h=>by
  simp only [putK] at h
  have:=ou o cs z _ r h
  rw [show o+1+cs.length=o+cs.length+1 by omega]
  simp at this ⊢
  exact ⟨ab,this.2⟩
def subK:Nat→Nat→List Value→(List Value→Option (List Value))→Option (List Value)
 | 0,0,_,k=>k []
 | 0,n+1,x::z,k=>subK 0 n z fun r=>k (x::r)
 | o+1,n,_::z,k=>subK o n z k
 | _,_,[],_=>none
theorem rA:∀ (o n:Nat) (z:List Value) (k:List Value→Option (List Value)) (r:List Value),subK o n z k=some r→o+n≤z.length∧k ((z.drop o).take n)=some r
 | 0,0,z,k,r,h=>by cases z<;>simpa [subK] using h
 | 0,n+1,[],k,r,h=>by simp [subK] at h
 | 0,n+1,x::z,k,r,h=>by
  simp only [subK] at h
  have:=rA 0 n z _ r h
  simp at this ⊢
  exact this
 | o+1,n,[],k,r,h=>by cases n<;>simp [subK] at h
 | o+1,n,x::z,k,r,h=>by
  have h' : subK o n z k=some r:=by cases n<;>simpa only [subK] using h
  have:=rA o n z _ r h'
  rw [show o+1+n=o+n+1 by omega]
  simp at this ⊢
  exact this
def jC:Value→List Value
 | .agg cs=>cs.toList
 | v=>[v]
def tO:Value→Bool
 | .tuple _=>true
 | _=>false
theorem BA (v:Value) (ht:tO v=false):v.cells=(jC v).toArray:=by
 cases v<;>simp [Value.cells,jC,tO] at ht ⊢
def od (pl:List (Nat×Nat)):List (Nat×Value)→List Value→Option (List Value)
 | [],z=>some z
 | (i,v)::r,z=>match pl[i]? with
  | none=>none
  | some (off,sz)=>if tO v=false∧(jC v).length=sz then putK off (jC v) z fun z'=>od pl r z' else none
theorem DT (off:Nat) (cs z:List Value) (h:off+cs.length≤z.length):(cs.toArray.zipIdx.foldl (fun (a:Array Value) (p:Value×Nat)=>a.setIfInBounds (off+p.2) p.1) z.toArray)=(z.take off++cs++z.drop (off+cs.length)).toArray:=by
 have aux:∀ (cs:List Value) (k:Nat) (z:List Value),off+k+cs.length≤z.length→(cs.zipIdx k).foldl (fun (a:Array Value) (p:Value×Nat)=>a.setIfInBounds (off+p.2) p.1) z.toArray=(z.take (off+k)++cs++z.drop (off+k+cs.length)).toArray:=by
  intro cs
  induction cs with
  | nil=>intro k z _;simp
  | cons c cs ih =>
   intro k z hz
   simp only [List.length_cons] at hz
   simp only [List.zipIdx_cons,List.foldl_cons,List.setIfInBounds_toArray]
   rw [ih (k+1) (z.set (off+k) c) (by simp;omega)]
   congr 1
   rw [show off+(k+1)=off+k+1 by omega,List.take_succ_eq_append_getElem (by simp;omega),List.getElem_set_self,List.take_set_of_le ab,List.drop_set_of_lt ab]
   simp only [List.append_assoc,List.cons_append,List.nil_append,List.length_cons]
   rw [show off+k+1+cs.length=off+k+(cs.length+1) by omega]
 have:=aux cs 0 z ab
 simpa using this
theorem ph (pl:List (Nat×Nat)):∀ (vs:List (Nat×Value)) (z cs:List Value),od pl vs z=some cs→Instr.fill (fun i=>pl.toArray[i]?) z.toArray vs=some cs.toArray
 | [],z,cs,h=>by simp [od] at h;simp [Instr.fill,h]
 | (i,v)::r,z,cs,h=>by
  simp only [od] at h
  cases h1:pl[i]? with
  | none=>rw [h1] at h;cases h
  | some p =>
   obtain ⟨off,sz⟩:=p
   rw [h1] at h
   simp only at h
   by_cases hc:tO v=false∧(jC v).length=sz
   ·rw [if_pos hc] at h
    obtain ⟨h3,h4⟩:=ou _ _ _ _ _ h
    have ih:=ph pl r _ _ h4
    have hsz:=hc.2
    simp only [Instr.fill,List.getElem?_toArray,h1,BA v hc.1,List.size_toArray]
    have hno:¬(decide ((jC v).length≠sz) || decide (off+(jC v).length>z.length))=true:=by simp [hsz];omega
    rw [if_neg hno,DT off (jC v) z h3]
    simp only [List.getElem?_toArray] at ih
    exact ih
   ·rw [if_neg hc] at h;cases h
theorem pf {α:Type} {enc:α→List Value} {sz:Nat} (e:α):∀ {xs:List α} {j:Nat},(∀ x∈xs,(enc x).length=sz)→j<xs.length→(xs.set j e).flatMap enc=(xs.flatMap enc).take (j*sz)++enc e++(xs.flatMap enc).drop (j*sz+sz)
 | [],j,_,h=>by simp at h
 | x::xs,0,hs,_=>by
  have hx:=hs x (List.mem_cons_self ..)
  simp only [List.set_cons_zero,List.flatMap_cons,Nat.zero_mul,List.take_zero,List.nil_append,Nat.zero_add]
  rw [← hx,List.drop_left]
 | x::xs,j+1,hs,h=>by
  have hx:=hs x (List.mem_cons_self ..)
  have ih:=pf e (xs:=xs) (j:=j) (fun y hy=>hs y (List.mem_cons_of_mem _ hy)) (by simpa using h)
  simp only [List.set_cons_succ,List.flatMap_cons,ih]
  rw [show (j+1)*sz=(enc x).length+j*sz by rw [hx,Nat.succ_mul];omega,List.take_length_add_append,Nat.add_assoc,List.drop_length_add_append]
  simp only [List.append_assoc]
section
variable {P:Program} {N:Nat} {env:Env} {L:List HP} {ty:TypeId} {v:Value}
theorem Ev.u7 {t:TypeId} {ps:Array (Nat×Operand)} {vs:List (Nat×Value)} {pl:List (Nat×Nat)} {z cs:List Value} [hs:TyStruct P t pl] [hz:ZeroT P t z] (hv:iK env ps.toList=some vs) (hc:od pl vs z=some cs):Ev P L env (.build t ps) ty (.agg cs.toArray) :=
 Ev.mk (fun θ R ρ w ea s _ _ _ _=>by
  obtain ⟨z0,h1,h2⟩:=hz.run w
  have he:=hs.eq
  cases hu:P.underlying t with
  | none=>rw [hu] at he;cases he
  | some dsc =>
   rw [hu] at he
   cases dsc<;>simp [pw] at he
   rename_i fs
   have hm:=lk (P:=P) (w:=w) fs.toList pl (by simpa using he)
   have hargs:ps.map (fun p=>(p.1,ρ p.2))=vs.toArray:=by
    apply Array.ext'
    simpa using ea.pairs ps.toList vs hv
   have hm' : (fs.mapM fun (f:Field)=>do pure (f.offset,← sizeOf f.type)).run P w=.ok pl.toArray w:=by
    have e:fs=fs.toList.toArray:=by simp
    rw [e,List.mapM_toArray]
    simp only [Sem.run_map,hm,Result.andThen_ok]
   have hf:=ph pl vs z cs hc
   simp only [execOp,hargs,Instr.build,Sem.run_bind,h1,Result.andThen_ok,run_underlying hu,hm',h2]
   simp only [hf]
   simp)
theorem Ev.j0 {t:TypeId} {x:Operand} {b o T n:Nat} {cs vs:List Value} {Rest:List HP} [ht:TyAgg P t n] [hp:PickObj L b T cs Rest] (hx:evE env x=some (.pointer (some ⟨b,o,none⟩))) (hs:subK o n cs some=some vs):Ev P L env (.load t x) ty (.agg vs.toArray) :=
 Ev.mk (fun θ R _ w ea s _ _ _ _=>by
  obtain ⟨h1,h2⟩:=rA _ _ _ _ _ hs
  simp only [Option.some.injEq] at h2
  subst h2
  have hb:=s.obj_heap hp.perm
  have hl:=run_loadCells_list (P:=P) w ⟨b,o,none⟩ ((cs.drop o).take n) (fun j v hv=>by
   have hj:j<n:=by have:=(List.getElem?_eq_some_iff.1 hv).1;simp at this;omega
   rw [gr,cS hb]
   simp [hj] at hv ⊢
   exact hv)
  have hlen:((cs.drop o).take n).length=n:=by simp;omega
  rw [hlen] at hl
  simp [execOp,ao ea hx,Instr.loadAt,Instr.sureAddr,loadVar,ht.run,TyAgg.sizeOf_run,hl])
theorem Ef.c8 {t:TypeId} {x y:Operand} {b o T n:Nat} {cs vs cs' : List Value} {Rest:List HP} [ht:TyAgg P t n] [hp:PickObj L b T cs Rest] (hx:evE env x=some (.pointer (some ⟨b,o,none⟩))) (hy:evE env y=some (.agg vs.toArray)) (hn:vs.length=n) (hs:putK o vs cs some=some cs') (h1:∀ v∈vs,v.oneCell' = true)
  : Ef P L env (.store t x y) ty (fun _ L'=>L' = obj b T cs'::Rest) :=
 Ef.skip (fun θ R a w ea s dst pos af g=>by
  obtain ⟨h2,h3⟩:=ou _ _ _ _ _ hs
  simp only [Option.some.injEq] at h3
  subst h3
  have s1:=s.perm (hp.perm.append_right R)
  have hb:w.heap[b]? = some (.cells cs.toArray T (0,0)):=s1.own_heap
  have hst:=run_storeCells_at P b o T vs 0 cs.toArray w hb (by simp;omega) h1
  refine ⟨w.setRow b (cs.take o++vs++cs.drop (o+vs.length)).toArray,_,?_,rfl,?_⟩
  ·simp [execOp,ao ea hx,ao ea hy,Instr.storeAt,Instr.sureAddr,storeVar,TyAgg.sizeOf_run,Value.cells,hn] at hst ⊢
   rw [hst]
   simp
  ·exact Sat.update s1 ⟨s.1.tape,s.1.os,s.1.output,s.1.drawn⟩ (setRow_heap w b _ _ T _ hb) (fun j x hj hx=>by rw [setRow_other w b j _ hj];exact hx))
theorem Ev.e8 {t:TypeId} {x:Operand} {b m sz j o:Nat} {α:Type} [Inhabited α] {enc:α→List Value} {xs:List α} [ht:TyOne P t] [hr:Rds L (some ⟨b,0,none⟩) α enc sz xs]
  (hx:evE env x=some (.pointer (some ⟨b,m,none⟩))) (hm:m=j*sz+o) (hj:j<xs.length) (ho:o<sz) (hv:(enc xs[j]!)[o]? = some v):Ev P L env (.load t x) ty v:=by
 refine Ev.a6 (ad:=some ⟨b,0,none⟩) (sz:=sz) (j:=j) (o:=o) ?_ hj ho hv
 rw [hx,hm]
 simp only [elP,Option.map_some,dY]
theorem Ef.d8 {t:TypeId} {x y:Operand} {ad:Option Addr} {sz j E cap:Nat} {α:Type} [Inhabited α] {enc:α→List Value} {xs:List α} {Rest:List HP} {vs:List Value} (e:α) [ht:TyAgg P t sz] [hp:PickOsl L ad α enc sz E cap xs Rest]
  (hx:evE env x=some (.pointer (elP ad sz j 0))) (hy:evE env y=some (.agg vs.toArray)) (he:enc e=vs) (hn:vs.length=sz) (h1:∀ v∈vs,v.oneCell' = true) (hj:j<xs.length) :
  Ef P L env (.store t x y) ty (fun _ L'=>L' = osl enc sz E ad cap (xs.set j e)::Rest) :=
 Ef.skip (fun θ R ρ w ea s dst pos af g=>by
  have s1:=s.perm (hp.perm.append_right R)
  obtain ⟨p1,p2,p3,p4⟩:=Sat.osl_parts s1
  rcases p4 with ⟨rfl,rfl⟩|⟨gb,cur,rfl,f1,f2,f3⟩
  ·omega
  ·have hb:w.heap[gb]? = some (.cells cur E (0,0)):=f3.own_heap
   have hlen:(j+1)*sz≤xs.length*sz:=Nat.mul_le_mul_right _ hj
   rw [Nat.succ_mul] at hlen
   have hcap:=Nat.mul_le_mul_right sz p2
   have hst:=run_storeCells_at P gb (j*sz) E vs 0 cur w hb ab h1
   have hel:∀ y∈xs.set j e,(enc y).length=sz:=by
    intro y hy'
    rcases List.mem_or_eq_of_mem_set hy' with h|h
    ·exact p1 y h
    ·subst h;rw [he];exact hn
   have hx' : evE env x=some (.pointer (some ⟨gb,j*sz,none⟩)):=by rw [hx];simp only [elP,Option.map_some,dY,Nat.add_zero]
   refine ⟨w.setRow gb (cur.toList.take (j*sz)++vs++cur.toList.drop (j*sz+sz)).toArray,_,?_,rfl,?_⟩
   ·simp [execOp,ao ea hx',ao ea hy,Instr.storeAt,Instr.sureAddr,storeVar,TyAgg.sizeOf_run,Value.cells,hn] at hst ⊢
    rw [hst]
    simp
   ·have s3:Sat θ (own gb (.cells (cur.toList.take (j*sz)++vs++cur.toList.drop (j*sz+sz)).toArray E (0,0))::(Rest++R)) (w.setRow gb (cur.toList.take (j*sz)++vs++cur.toList.drop (j*sz+sz)).toArray) :=
     Sat.update f3 ⟨s.1.tape,s.1.os,s.1.output,s.1.drawn⟩ (setRow_heap w gb _ _ E _ hb) (fun k x hk hx=>by rw [setRow_other w gb k _ hk];exact hx)
    refine Sat.osl_mk (L:=Rest++R) s3 hel (by simpa using p2) p3 ?_ ?_
    ·simp [hn];omega
    ·have hl2:(cur.toList.take (j*sz)).length=j*sz:=by simp;omega
     rw [pf e p1 hj,← f2,he,List.length_set,List.take_take,Nat.min_eq_left ab,List.drop_take]
     simp only
     have hAv:(cur.toList.take (j*sz)++vs).length=j*sz+sz:=by rw [List.length_append,hl2,hn]
     rw [List.take_append,hAv,List.take_of_length_le (l:=cur.toList.take (j*sz)++vs) ab])
theorem rU {α:Type} {enc:α→List Value} {z:Array Value} {e:α} (he:enc e=z.toList) (hz:0<z.size) (n:Nat):((List.replicate n e).flatMap enc).toArray=madeCells z (n*z.size):=by
 apply Array.ext
 ·simp [madeCells,cA (enc:=enc) (sz:=z.size) (xs:=List.replicate n e) (fun x hx=>by rw [List.eq_of_mem_replicate hx,he];simp)]
 ·intro i h1 h2
  simp only [madeCells,Array.getElem_map,Array.getElem_range]
  have hlen:((List.replicate n e).flatMap enc).length=n*z.size:=by
   have:=cA (enc:=enc) (sz:=z.size) (xs:=List.replicate n e) (fun x hx=>by rw [List.eq_of_mem_replicate hx,he];simp)
   simpa using this
  have hi:i<n*z.size:=by simpa [hlen] using h1
  have hq:i / z.size<n:=(Nat.div_lt_iff_lt_mul hz).2 hi
  have hr:=Nat.mod_lt i hz
  have hd:=Nat.div_add_mod i z.size
  haveI:Inhabited α:=⟨e⟩
  have:=mI (enc:=enc) (sz:=z.size) (xs:=List.replicate n e) (fun x hx=>by rw [List.eq_of_mem_replicate hx,he];simp) (j:=i / z.size) (o:=i % z.size) (by simpa using hq) hr
  rw [show i / z.size*z.size+i % z.size=i by rw [Nat.mul_comm];exact hd] at this
  rw [List.getElem!_eq_getElem?_getD,List.getElem?_replicate,if_pos hq] at this
  simp only [Option.getD_some,he] at this
  rw [List.getElem?_eq_getElem ab] at this
  simp only [Array.getElem?_toList,Array.getElem?_eq_getElem hr,Option.some.injEq] at this
  simp only [List.getElem_toArray,this]
  rw [getElem!_pos z (i % z.size) hr]
theorem Ef.d9 {t:TypeId} {x y:Operand} {E sz bb:Nat} {z:List Value} {α:Type} (enc:α→List Value) (e:α) {n c:Int} [ht:TySl P t E sz bb z] (hx:evE env x=some (.int .i64 n)) (hy:evE env y=some (.int .i64 c)) (he:enc e=z) (h0:0≤n) (hc:n≤c) (h1:c*bb≤16777216) (h2:c≤1000000000) :
  Ef P L env (.makeSlice t x y) ty (fun v L'=>∃ b,v=.slice (some ⟨b,0,none⟩) n.toNat c.toNat∧L' = osl enc sz E (some ⟨b,0,none⟩) c.toNat (List.replicate n.toNat e)::L) :=
 Ef.val (fun θ R a w ea s dst pos af g=>by
  obtain ⟨ii,zz,i1,i2,i3,i4,i5⟩:=ht.parts
  have hzl:zz.cells.size=sz:=by rw [← Array.length_toList,i3];exact ht.zlen
  have hpos:=ht.pos
  have hk:=run_make (P:=P) w t E ii zz ht.under i1 i2 .i64 .i64 n c h0 hc (by rw [i5,Int.mul_comm];omega) ab
  rw [i4,← hzl,← rU (enc:=enc) (e:=e) (by rw [he,i3]) ab] at hk
  refine ⟨.slice (some ⟨w.heap.size,0,none⟩) n.toNat c.toNat,w.alloc (.cells ((List.replicate c.toNat e).flatMap enc).toArray E),_,by simp [execOp,ao ea hx,ao ea hy,hk],⟨_,rfl,rfl⟩,?_⟩
  have s1:=s.alloc (o:=.cells ((List.replicate c.toNat e).flatMap enc).toArray E)
  have hel:∀ (k:Nat),∀ x∈List.replicate k e,(enc x).length=sz:=fun k x hx=>by rw [List.eq_of_mem_replicate hx,he];exact ht.zlen
  refine Sat.osl_mk (enc:=enc) (sz:=sz) (cap:=c.toNat) (xs:=List.replicate n.toNat e) (L:=L++R) s1 (hel _) (by simp;omega) (by simp only [maxLen];omega) ?_ ?_
  ·simp only [List.size_toArray]
   rw [cA (hel _),List.length_replicate]
  ·have e1:List.replicate c.toNat e=List.replicate n.toNat e++List.replicate (c.toNat - n.toNat) e:=by
    rw [List.replicate_append_replicate];congr 1;omega
   rw [e1,List.flatMap_append]
   simp only
   rw [List.take_append_of_le_length (by rw [cA (hel _)];exact Nat.le_refl _),List.take_of_length_le (by rw [cA (hel _)];exact Nat.le_refl _)])
end
end Go.V
namespace Go.V
theorem aa {φ ψ:Prop} (k:ψ) (h:Hid ψ→φ:=by intro k;repeat1' (first|((with_reducible apply GO.a6);first|refine GO.ev rf ac ?_|refine GO.efB (Ef.g6 rfl) ac ?_|refine GO.efB (Ef.g8 rfl rfl) ac ?_|refine GO.efB (Ef.alloc) ac ?_|refine GO.efB (Ef.lit rfl rfl ac rfl) ac ?_)|((with_reducible apply GO.d8);first|refine GO.d9 rfl rfl ac ?_|refine GO.e7 rfl rfl ac ?_|refine GO.c8 rfl rfl ac ?_)|with_reducible apply GO.nil|((with_reducible apply GO.e8);first|refine GO.a8 (Ef.e8 rfl rfl (by first|omega|exact Nat.le_of_ble_eq_true rfl)) ?_|refine GO.a8 (Ef.e7 rfl rfl rfl rfl) ?_|refine GO.a8 (Ef.c9 rfl rfl (by rfl) (by rfl) (by first|exact EncC.one _|simp [Value.oneCell'])) ?_|refine GO.a8 (Ef.c8 rfl rfl (by rfl) rfl (by first|exact EncC.one _|simp [Value.oneCell'])) ?_)|((with_reducible apply GP.c7);first|refine GP.go rfl ?_|refine GP.a8 rfl rfl rfl ac ?_|refine GP.c6 rfl rfl rfl ac ?_|refine GP.a7 rfl rfl rfl ac ?_)|((with_reducible apply GPW.c8);first|refine GPW.evP re ac ?_|refine GPW.evL rc ac ?_|refine GPW.evP (by ((with_reducible apply Ev.e9);exact Ev.c8 rfl rfl ab ab)) ac ?_)|with_reducible apply GP.nil|((with_reducible apply GPW.a6);first|refine GPW.efB (Ef.g6 rfl) ac ?_|refine GPW.efB (Ef.g8 rfl rfl) ac ?_|refine GPW.efB (Ef.alloc) ac ?_|refine GPW.efB (Ef.lit rfl rfl ac rfl) ac ?_)|((with_reducible apply GPW.c7);first|refine GPW.a7 (Ef.e8 rfl rfl (by first|omega|exact Nat.le_of_ble_eq_true rfl)) ?_|refine GPW.a7 (Ef.e7 rfl rfl rfl rfl) ?_|refine GPW.a7 (Ef.c9 rfl rfl (by rfl) (by rfl) (by first|exact EncC.one _|simp [Value.oneCell'])) ?_|refine GPW.a7 (Ef.c8 rfl rfl (by rfl) rfl (by first|exact EncC.one _|simp [Value.oneCell'])) ?_)|with_reducible apply GPK.nil|((with_reducible apply GPK.a6);first|refine GPK.keep ra ?_|refine GPK.drop rfl ?_)|with_reducible apply CB.tt|with_reducible apply CB.ff|with_reducible refine CB.pos ab ?_|with_reducible refine CB.neg ab ?_|with_reducible refine CB.pos (by simp;first|done|omega) ?_|with_reducible refine CB.neg (by simp;first|done|omega) ?_|with_reducible apply GB.tt|with_reducible apply GB.ff|with_reducible refine GB.pos ab ?_|with_reducible refine GB.neg ab ?_|with_reducible refine GB.pos (by simp;first|done|omega) ?_|with_reducible refine GB.neg (by simp;first|done|omega) ?_|with_reducible refine KX.e9 ?_|with_reducible refine KX.c9 ?_|with_reducible refine KX.e7 ?_|with_reducible refine KX.e8 ?_|with_reducible refine KX.d7 ?_|with_reducible refine KX.d8 ?_|with_reducible refine KX.a7 ?_|with_reducible refine KX.c8 ac ?_|with_reducible apply G.seq|with_reducible apply G.block|with_reducible apply G.region|with_reducible apply G.skip|with_reducible apply G.exit|with_reducible apply G.ret|refine G.cond rfl ?_);exact Hid.out k):φ:=h ⟨k⟩
theorem aL {φ ψ:Prop} (k:ψ) (h:Hid ψ→φ:=by intro k;repeat1' (first|((with_reducible apply GO.a6);first|refine GO.ev rf ac ?_|refine GO.efB (Ef.g6 rfl) ac ?_|refine GO.efB (Ef.g8 rfl rfl) ac ?_|refine GO.efB (Ef.alloc) ac ?_|refine GO.efB (Ef.lit rfl rfl ac rfl) ac ?_)|((with_reducible apply GO.d8);first|refine GO.d9 rfl rfl ac ?_|refine GO.e7 rfl rfl ac ?_|refine GO.c8 rfl rfl ac ?_)|with_reducible apply GO.nil|((with_reducible apply GO.e8);first|refine GO.a8 (Ef.e8 rfl rfl (by first|omega|exact Nat.le_of_ble_eq_true rfl)) ?_|refine GO.a8 (Ef.e7 rfl rfl rfl rfl) ?_|refine GO.a8 (Ef.c9 rfl rfl (by rfl) (by rfl) (by first|exact EncC.one _|simp [Value.oneCell'])) ?_|refine GO.a8 (Ef.c8 rfl rfl (by rfl) rfl (by first|exact EncC.one _|simp [Value.oneCell'])) ?_)|((with_reducible apply GP.c7);first|refine GP.go rfl ?_|refine GP.a8 rfl rfl rfl ac ?_|refine GP.c6 rfl rfl rfl ac ?_|refine GP.a7 rfl rfl rfl ac ?_)|((with_reducible apply GPW.c8);first|refine GPW.evP re ac ?_|refine GPW.evL rc ac ?_|refine GPW.evP (by ((with_reducible apply Ev.e9);exact Ev.c8 rfl rfl ab ab)) ac ?_)|with_reducible apply GP.nil|((with_reducible apply GPW.a6);first|refine GPW.efB (Ef.g6 rfl) ac ?_|refine GPW.efB (Ef.g8 rfl rfl) ac ?_|refine GPW.efB (Ef.alloc) ac ?_|refine GPW.efB (Ef.lit rfl rfl ac rfl) ac ?_)|((with_reducible apply GPW.c7);first|refine GPW.a7 (Ef.e8 rfl rfl (by first|omega|exact Nat.le_of_ble_eq_true rfl)) ?_|refine GPW.a7 (Ef.e7 rfl rfl rfl rfl) ?_|refine GPW.a7 (Ef.c9 rfl rfl (by rfl) (by rfl) (by first|exact EncC.one _|simp [Value.oneCell'])) ?_|refine GPW.a7 (Ef.c8 rfl rfl (by rfl) rfl (by first|exact EncC.one _|simp [Value.oneCell'])) ?_)|with_reducible apply GPK.nil|((with_reducible apply GPK.a6);first|refine GPK.keep ra ?_|refine GPK.drop rfl ?_)|with_reducible apply CB.tt|with_reducible apply CB.ff|with_reducible refine CB.pos ab ?_|with_reducible refine CB.neg ab ?_|with_reducible refine CB.pos (by simp;first|done|omega) ?_|with_reducible refine CB.neg (by simp;first|done|omega) ?_|with_reducible apply GB.tt|with_reducible apply GB.ff|with_reducible refine GB.pos ab ?_|with_reducible refine GB.neg ab ?_|with_reducible refine GB.pos (by simp;first|done|omega) ?_|with_reducible refine GB.neg (by simp;first|done|omega) ?_|with_reducible refine KX.e9 ?_|with_reducible refine KX.c9 ?_|with_reducible refine KX.e7 ?_|with_reducible refine KX.e8 ?_|with_reducible refine KX.d7 ?_|with_reducible refine KX.d8 ?_|with_reducible refine KX.a7 ?_|with_reducible refine KX.c8 ac ?_|with_reducible apply G.block|with_reducible apply G.region|with_reducible apply G.skip|with_reducible apply G.exit|with_reducible apply G.ret|refine G.cond rfl ?_);exact Hid.out k):φ:=h ⟨k⟩
end Go.V
namespace Go.V
section gf
variable {P:Program} {N:Nat} {ops:Array Oper} {done done' : List Nat} {n:Nat} {pend:List PE} {env env' : Env} {L L' : List HP} {K:Post}
theorem GF.conseq (hd:(cd ops.size done == cd ops.size done')=true) (he:EnvSub env env') (hL:Ent L L') (h:GF P N ops done' n pend env' L' K):GF P N ops done n pend env L K:=by
 have e:=eq_of_beq hd
 intro hK hs hcl θ Y a w S i hpo hpw
 rw [e] at hcl ⊢
 exact h hK hs hcl θ Y a w S (i.less he hL) hpo hpw
theorem GF.ent (hL:Ent L L') (h:GF P N ops done n pend env L' K):GF P N ops done n pend env L K:=fun hK hs hcl θ Y a w S i hpo hpw=>h hK hs hcl θ Y a w S (i.less (EnvSub.refl _) hL) hpo hpw
theorem GF.a7 (js:List Nat) (hr:(Region.ready .any ops (cd ops.size done) == js)=true) (hne:(js == [])=false) (h:∀ j∈js,GE P N ops done j n pend env L K):GF P N ops done (n+1) pend env L K:=by
 intro hK hs hcl θ Y a w S i0 hpo hpw
 have hr':=eq_of_beq hr
 refine ⟨fun h0=>?_,fun k hk=>?_⟩
 ·rw [hr'] at h0
  rw [h0] at hne
  cases hne
 ·have hk':=hk
  rw [hr'] at hk'
  exact h k hk' hK hs hcl hk θ Y a w S i0 hpo hpw
theorem GF.a8 (i j k:Nat) (hr:(Region.ready .any ops (cd ops.size done) == [i,j,k])=true) (h1:GE P N ops done i n pend env L K) (h2:GE P N ops done j n pend env L K) (h3:GE P N ops done k n pend env L K):GF P N ops done (n+1) pend env L K :=
 GF.a7 [i,j,k] hr rfl (fun x hx=>by
  rcases List.mem_cons.1 hx with rfl|hx
  ·exact h1
  ·rcases List.mem_cons.1 hx with rfl|hx
   ·exact h2
   ·obtain rfl:=List.mem_singleton.1 hx
    exact h3)
theorem GF.evS {env₀:Env} {i d:Nat} {op:Op} {ty:TypeId} {pos:String} {af:Array Edge} {v:Value} (hs:EnvSub env env₀) (hi:ops[i]? = some ⟨some d,op,ty,pos,af,none⟩)
  (hr:((Region.ready .any ops (cd ops.size done)).contains i && Region.free .any ops (cd ops.size done) i)=true) (he:Ev P L env₀ op ty v) (hd:d<N) (h:GF P N ops (i::done) n (⟨i,op,ty,env₀,v⟩::pend) ((d,v)::env) L K):GF P N ops done (n+1) pend env L K:=by
 refine GF.c6 hi hd hr (fun θ R a w ea s=>⟨fun w'=>(execOp a.eval ⟨some d,op,ty,pos,af,none⟩).run P w' = .ok (.value v) w',.inl ⟨rfl,fun w' h=>h⟩,he θ R a.eval w _ (ea.less hs).agr s rfl rfl,fun S hS p hp=>?_⟩) h
 rcases List.mem_cons.1 hp with rfl|hp
 ·exact .inr ⟨_,List.mem_cons_self,rfl,a.eval,_,(ea.less hs).agr,rfl,rfl,fun w h=>h⟩
 ·rcases hS p hp with h|⟨pe,h1,h2⟩
  ·exact .inl h
  ·exact .inr ⟨pe,List.mem_cons_of_mem _ h1,h2⟩
theorem GF.fam {ι:Type} (D:ι→List Nat) (m:ι→Nat) (pe:ι→List PE) (en:ι→Env) (LL:ι→List HP) (rank:ι→Nat) (step:∀ i,(∀ j,rank j<rank i→GF P N ops (D j) (m j) (pe j) (en j) (LL j) K)→GF P N ops (D i) (m i) (pe i) (en i) (LL i) K):∀ i,GF P N ops (D i) (m i) (pe i) (en i) (LL i) K:=by
 have h:∀ r i,rank i<r→GF P N ops (D i) (m i) (pe i) (en i) (LL i) K:=by
  intro r
  induction r with
  | zero=>intro i hi;omega
  | succ r ih =>
   intro i hi
   exact step i (fun j hj=>ih j ab)
 exact fun i=>h (rank i+1) i ab
end gf
end Go.V
