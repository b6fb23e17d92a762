/- Lemmas. -/
import Derived.Test.YtlgpgjdggilkgaaGreatDoorEcad
import Derived.ProofKit
import Derived.Carry
import Derived.ChangeSlices
import Derived.ChangeSame
import Derived.OpenShut
import Derived.Laws.Externs
import Derived.MapKept
import Derived.Laws.BitsAllLaws
import Derived.Laws.DeepNot64
import Derived.Laws.IdiomStrings
import Derived.LoopNIn
set_option linter.all false
namespace Go.V
section
open Go.ChangeShapes Go.WideShapes Go.ChangeAt Go.RowKit
def wh(w:World):HP:=fun ι _=>Hp.sub (im w) ι
def Stars.snoc{L:LH}{ι h:Hp}{p:HP}(s:Stars L ι h)(hp:p ι Hp.emp):Stars (L++[p]) ι h:=by
 induction L generalizing h with
 | nil=>exact⟨ι,Hp.emp,h,Hp.sub.refl _,Hp.c7 _,Hp.a8 _,Hp.sub.refl _,hp,trivial⟩
 | cons q L ih =>
  obtain⟨ι₀,h₁,h₂,a,b,c,d,e,f⟩:=s;exact⟨ι₀,h₁,h₂,a,b,c,d,e,ih f⟩
def Tri.law{P:Program}{f:FuncId}{args:Array Value}{L:LH}{v:Value}{post:LH→Prop}(h:Tri P f args L (fun u L'=>u=v∧post L'))(w:World)(hs:Stars L (im w) Hp.emp) :
  Calls P f args w fun e w'=>e=.returned v∧Below w.heap.size w w':=by
 have s0:Sat ⟨w.tape,w.os,w.output,w.drawn⟩ (L++[wh w]) w:=⟨⟨rfl,rfl,rfl,aq _⟩,im w,Hp.emp,fun _ _ _=>rfl,Hp.sub.refl _,Hp.a8 _,hs.snoc (Hp.sub.refl _)⟩;refine(h.calls _ _ w s0).mono ?_;rintro e w' ⟨u,L',rfl,⟨rfl,_⟩,s1⟩;refine⟨rfl,?_⟩;have s2:Sat ⟨w.tape,w.os,w.output,w.drawn⟩ (wh w::L') w':=s1.perm (List.perm_append_singleton _ _);obtain⟨ok,ι,h,a,b1,c,ι₀,h₁,h₂,d1,d2,d3,d4,d5,d6⟩:=s2;have hk:∀k o,w.heap[k]? = some o→w'.heap[k]? = some o:=fun k o hx=>b1 k o (d1 k o (d5 k o hx));refine⟨ok.os,ok.tape,ok.output,?_,fun k a0=>?_⟩
 ·rcases fc w'.heap.size w.heap.size with a2|a1
  ·have h1:=hk w'.heap.size _ (Array.getElem?_eq_getElem a2);rw[Array.getElem?_eq_none (aq _)] at h1;cases h1
  ·exact a1
 ·rw[Array.getElem?_eq_getElem a0];exact hk k _ (Array.getElem?_eq_getElem a0)
def Cx{H:Type}{enc:TypeId×Value→H}{P:Program}{f:Func}{s:ChangeSpec}{apart fresh a1:Bool}{W W' : World}{args:Array Value}{v:Value}{ds gs:List (DataW H)}{a0 pa pv:List MemPlace}
  (hW:DataW.Whole enc P f.params.toList s.vars apart W args.toList ds gs a0)
  (a4:∀(b:Nat) (sp:Nat→Bool) (hd:Bool),DataW.TrodAll enc P W' b sp hd f.resultTypes.toList (v.resultList f.resultTypes.size) (s.fn H (ds++gs)).results [])
  (a2:DataW.TrodAll enc P W' 0 (fun b=>decide (b<W.heap.size)) true f.params.toList args.toList (s.fn H (ds++gs)).args pa)
  (a3:DataW.TrodVars enc P W' (fun b=>decide (b<W.heap.size)) s.vars (s.fn H (ds++gs)).vars pv)
  (a5:a0=pa++pv) (hb:Below W.heap.size W W') :
  s.post enc P f apart fresh a1 false W args v W':=by
 refine⟨ds,gs,a0,[],pa,pv,hW,a4 _ _ _,a2,a3,World.keptBut_mono (fun p hp=>⟨hp,?_⟩) (hb.frame (·∈a0)),fun h=>by cases h⟩;rw[a5,List.mem_append] at hp;exact Or.inr hp
def xZ{w:World}{k:IntKind}{b off len:Nat}{zs:List Int}(hc:∀i,i<zs.length→w.cell? ⟨b,off+i,none⟩=some (.int k (zs.getD i 0)))(hl:len≤zs.length):isl (encZ k) 1 (some ⟨b,off,none⟩) (zs.take len) (im w) Hp.emp:=by
 refine⟨fun _ _=>rfl,?_⟩;rcases Nat.eq_zero_or_pos (zs.take len).length with h0|a0
 ·exact .inl (aZ h0)
 right;have hz:0<zs.length:=by simp at a0;omega
 have h0:=hc 0 hz;cases hb:w.heap[b]? with
 | none=>simp[World.cell?,hb] at h0
 | some o =>
  cases o with
  | cells cur E fz =>
   refine⟨b,off,cur,E,fz,rfl,hb,fun i v hv=>?_⟩;rw[nK] at hv
   have hi:i<(zs.take len).length:=by
    rcases fc i (zs.take len).length with h|h
    ·exact h
    ·rw[List.getElem?_eq_none (by simpa using h)] at hv;cases hv
   have h1:=hc i (by simp at hi;omega);rw[eD hb] at h1;rw[h1,←hv];simp only[aK] at hi;simp[show i<len by omega,List.getD,List.getElem?_eq_getElem (ab:i<zs.length)]
  | _=>simp[World.cell?,hb] at h0
def Stars.push{L:LH}{ι:Hp}{p:HP}(hp:p ι Hp.emp)(s:Stars L ι Hp.emp):Stars (p::L) ι Hp.emp:=⟨ι,Hp.emp,Hp.emp,Hp.sub.refl _,Hp.c7 _,Hp.a8 _,Hp.sub.refl _,hp,s⟩
abbrev pK(W:World)(b:Nat):Option Obj:=W.heap[b]?
def Bv{H:Type}{enc:TypeId×Value→H}{P:Program}{W:World}{t e:TypeId}{k:IntKind}{ad:OA}{len cap:Nat}{d:DataW H}{p:List MemPlace}(ht:P.underlying t=some (.slice e))(he:P.underlying e=some (.int k))(hc:P.cellsOf e=1)
  (h:DataW.Trod enc P W 0 (fun _=>true) true t (.slice ad len cap) d p):∃xs:List Int,isl (encZ k) 1 ad xs (im W) Hp.emp∧len=xs.length∧(len≤cap∧cap≤maxLen)∧∀x∈xs,(Lit.int k x).wf=true:=by
 obtain⟨fuel,hf⟩:=h;rcases open_ints ht he hc hf with⟨a1,hx⟩|⟨a,a6,a4,zs,a1,_,hl,hm,hz,hx,a0,a5⟩
 ·simp[Value.cells] at a1;obtain⟨rfl,rfl,rfl⟩:=a1;exact⟨[],⟨by simp,.inl rfl⟩,rfl,⟨by simp,by simp⟩,by simp⟩
 ·simp[Value.cells] at a1;obtain⟨rfl,rfl,rfl⟩:=a1;simp only[if_true] at hz;refine⟨zs.take len,?_,by simp[aK];omega,⟨hl,hm⟩,fun x hx=>a5 x (bF hx)⟩;rcases Nat.eq_zero_or_pos zs.length with h0|a3
  ·have:zs=[]:=aZ h0;subst this;exact⟨by simp,.inl cc⟩
  ·have h1:=a0 0 a3;obtain⟨b,off,a2⟩:=a
   have hs:a2=none:=by
    rw[pH] at h1;unfold World.cell? at h1;cases hb:pK W b with
    | none=>simp[pK] at hb;simp[hb] at h1
    | some o =>
     simp only[pK] at hb;simp only[hb] at h1;cases o with
     | cells c E fz=>cases a2 with
      | none=>rfl
      | some x=>simp at h1
     | _=>simp at h1
   subst hs;exact xZ (fun i hi=>by rw[←iR];exact a0 i hi) ab
def ww{a:Int}(h:(Lit.int .i64 a).wf=true) : -9223372036854775808≤a∧a≤9223372036854775807:=by
 simp[Lit.wf,IntKind.min,IntKind.max,IntKind.signed,IntKind.bits] at h;omega
end
section
structure SlV where
 ad:OA
 n:Nat
 cap:Nat
 deriving Inhabited
def rg(s:SlV):LV:=[.slice s.ad s.n s.cap]
def upd{α:Type}(f:Int→α)(k:Int)(v:α):Int→α:=fun j=>if j=k then v else f j
def pr{α:Type}(f:Int→α):List α:=[f 0,f 1]
section
variable {P:Program}{env:Env}{L:LH}{ty:TypeId}
structure IsMapClone (P:Program) (f:FuncId):Prop where
 run:∀args w,(callFunc f args).run P w=((Extern.MapsClone.clone args).run P w).andThen fun v w'=>.ok (.value v) w'
end
end
section
section fv
variable {P:Program}{N:Nat}{env:Env}{L:LH}{K:Post}{ty:TypeId}
def Ev.makeFunc{fn:Fn}{fs cs:Array Operand}{vs us:LV}(h1:fD env fs.toList=some vs)(h2:fD env cs.toList=some us):Ev P L env (.makeFunc fn fs cs) ty (.func fn vs.toArray us.toArray) :=
 Ev.mk (fun _ _ ρ w ea _ _ _ _ _=>by
  have e1:fs.map ρ=vs.toArray:=by apply Array.ext';simpa using ea.list fs.toList vs h1
  have e2:cs.map ρ=us.toArray:=by apply Array.ext';simpa using ea.list cs.toList us h2
  simp[execOp,Instr.makeFunc,e1,e2])
def Ef.l5{x:Operand}{f:FuncId}{xs:Array Operand}{ats:Array TypeId}{vs first cap:LV}{pre R' : LH}{post:Value→LH→Prop}
  (c:Tri P f (first++vs++cap).toArray pre post) (hx:evE env x=some (.func (.func f) first.toArray cap.toArray)) (hv:fD env xs.toList=some vs) (hL:Ent L (pre++R')) :
  Ef P L env (.call { callee:=.value x,args:=xs,argTypes:=ats }) ty (fun v L'=>∃L₁,post v L₁∧L' = L₁++R'):=by
 rintro θ R a w ⟨a2,a4,a3,pos,af,g⟩ next Q ha s rfl rfl hn
 have a0:xs.map a.eval=vs.toArray:=by
  apply Array.ext';simpa using ha.list xs.toList vs hv
 have a1:(execOp a.eval ⟨a2,.call { callee:=.value x,args:=xs,argTypes:=ats },a3,pos,af,g⟩).run P w=.ok (.enter f (first++vs++cap).toArray) w:=by
  simp[execOp,resolve,Deferred.ofValue,aL ha hx,invoke,a0];have:=c.enters (first++vs++cap).toArray w
  simpa using this
 rw[Oper.wp,a1,Oper.upon_enter];refine(c.calls θ (R'++R) w (by rw[←aB];exact hL θ R w s)).mono ?_;rintro e w' ⟨v,L',rfl,hp,s'⟩;exact hn v _ w' ⟨L',hp,rfl⟩ (by rw[aB];exact s')
def zw{l:Nat}{a0:Loop}{w:World}(h:w.heap[l]? = some (.loop a0)):(getObj l).run P w=.ok (.loop a0) w:=by simp[getObj,Sem.run,h]
def iX{l:Nat}{a0:Loop}{w:World}(h:w.heap[l]? = some (.loop a0)):(Instr.getLoop l).run P w=.ok a0 w:=by
 unfold Instr.getLoop;rw[Sem.run_bind,zw h];simp
def ke{l:Nat}{a0 rec' : Loop}{w:World}(h:w.heap[l]? = some (.loop a0)):(setObj l (.loop rec')).run P w=.ok () { w with heap:=w.heap.setIfInBounds l (.loop rec') }:=by simp[setObj,Sem.run,h]
def EfR(P:Program)(L:LH)(env:Env)(op:Op)(ty:TypeId)(post:Value→LH→Prop):Prop :=
 ∀r θ R a w o next Q,Agr env a.eval→Sat θ (L++R) w→o.op=op→o.type=ty→(∀v L' w',post v L'→Sat θ (L'++R) w'→next (a.put o.dst v) w')→Oper.wpIn (FW r) 0 P o a w next Q
def GO.efR{a0:Array Oper}{rest:List Oper}{d:Nat}{op:Op}{pos:String}{af:Array Edge}{post:Value→LH→Prop}(he:EfR P L env op ty post)(hd:d<N)
  (h:∀v L',post v L'→GO P N a0 rest ((d,v)::env) L' K):GO P N a0 (⟨some d,op,ty,pos,af,none⟩::rest) env L K:=by
 intro r θ Y a w hr i;refine wpListIn_plain rfl fun K' hK=>?_;obtain⟨M,ea,hm,s⟩:=i;exact he r θ _ a w _ K' _ ea.agr s rfl rfl fun v L' w' hp s'=>hK _ _ (h v L' hp r θ Y _ _ hr ⟨M,ea.put hd _,by rw[defers_put];exact hm,s'⟩)
def oD(tmps:Array Value)(ps:Array Tmp)(vs:Array Value):Array Value:=(ps.zip vs).foldl (fun t (p,v)=>t.setIfInBounds p v) tmps
structure YTri (P:Program) (l:Nat) (args:LV) (L:LH) (post:Value→LH→Prop):Prop where
 run:∀θ R w,Sat θ (L++R) w→∃rec,w.heap[l]? = some (.loop rec)∧args.length=rec.params.size∧∀r,RoundIn (FW r) 0 P l rec.fn (oD rec.tmps rec.params args.toArray) rec.assign rec.body w (fun e w'=>∃v L',e=.returned v∧post v L'∧Sat θ (L'++R) w')
def EfR.yield{x:Operand}{l:Nat}{xs:Array Operand}{ats:Array TypeId}{vs:LV}{pre R' : LH}{post:Value→LH→Prop}
  (c:YTri P l vs pre post) (hx:evE env x=some (.func (.yield l) #[] #[])) (hv:fD env xs.toList=some vs) (hL:Ent L (pre++R')) :
  EfR P L env (.call { callee:=.value x,args:=xs,argTypes:=ats }) ty (fun v L'=>∃L₁,post v L₁∧L' = L₁++R'):=by
 rintro r θ R a w ⟨a3,a6,a5,pos,af,g⟩ next Q ha s rfl rfl hn
 have a1:xs.map a.eval=vs.toArray:=by
  apply Array.ext';simpa using ha.list xs.toList vs hv
 obtain⟨a0,h1,h2,h3⟩:=c.run θ (R'++R) w (by rw[←aB];exact hL θ R w s)
 have a2:(execOp a.eval ⟨a3,.call { callee:=.value x,args:=xs,argTypes:=ats },a5,pos,af,g⟩).run P w=.ok (.round l a0.fn (oD a0.tmps a0.params vs.toArray) a0.assign a0.body) w:=by
  have a4:¬(vs.length≠a0.params.size):=fun h=>h h2
  have hy:(Instr.yield l vs.toArray).run P w=.ok (.round l a0.fn (oD a0.tmps a0.params vs.toArray) a0.assign a0.body) w:=by
   unfold Instr.yield;rw[Sem.run_bind,iX h1];simp only[Result.andThen_ok];rw[if_neg (by simpa using a4)];simp[oD]
  simp only[execOp,resolve,Deferred.ofValue,aL ha hx,invoke,a1];simpa using hy
 refine⟨fun _ _=>trivial,?_⟩;rw[Oper.semAt_eq _ _ _ (by intro c h;cases h),a2,Oper.uponIn_round];refine⟨(fun h=>by cases h),(h3 r).mono ?_⟩;rintro e w' ⟨v,L',rfl,hp,s'⟩;exact hn v _ w' ⟨L',hp,rfl⟩ (by rw[aB];exact s')
def Iter(P:Program)(gf:FuncId)(cap:LV)(a0:List (LV))(Lg:LH):Prop :=
 ∀(l:Nat) (J Jx:Nat→HP),(∀k (hk:k<a0.length),YTri P l a0[k] [J k] (fun v L'=>(v=.bool true∧L' = [J (k+1)])∨(v=.bool false∧L' = [Jx k]))) →
  Tri P gf (.func (.yield l) #[] #[]::cap).toArray (J 0::Lg) (fun _ L'=>L' = J a0.length::Lg∨∃k,L' = Jx k::Lg)
def penv(env:Env):List (Nat×Value)→Env
 | []=>env
 | p::r=>penv (p::env) r
def EnvOk.a8{ds a0 : List Deferred}:∀(l:List (Nat×Value)) {env:Env} {t:Array Value},(∀p∈l,p.1<N)→EnvOk N env ⟨t,ds⟩→EnvOk N (penv env l) ⟨l.foldl (fun t p=>t.setIfInBounds p.1 p.2) t,a0⟩
 | [],_,_,_,h=>⟨h.size,h.at_⟩
 | (p,v)::l,_,_,hp,h=>EnvOk.a8 l (fun q hq=>hp q (au _ hq)) (h.put (hp (p,v) av) v)
def ri(K:Post)(env:Env)(Lg:LH)(next:LH):Post:=fun e _ L'=>match e with
 | .normal=>Ent L' next
 | .ret=>K .ret env (L'++Lg)
 | .exit id=>K (.exit id) env (L'++Lg)
 | _=>False
def KX.round{K:Post}{env a0 : Env}{Lg next L' : LH}(h:Ent L' next):ri K env Lg next .normal a0 L':=h
def KX.g9{K:Post}{env a0 : Env}{Lg next L' : LH}(h:K .ret env (L'++Lg)):ri K env Lg next .ret a0 L':=h
def Sat.c7{θ:Th}{l:Nat}{a0 rec' : Loop}{L:LH}{w:World}(s:Sat θ (own l (.loop a0)::L) w):Sat θ (own l (.loop rec')::L) { w with heap:=w.heap.setIfInBounds l (.loop rec') }:=Sat.setMap s
def io(K:Post)(env:Env)(Lg:LH):Code→LH→Prop:=fun c L'=>match c with
 | .ret=>K .ret env (L'++Lg)
 | .exit id=>K (.exit id) env (L'++Lg)
 | _=>False
def perm_front{A B C:LH}:(A++(B++C)).Perm (B++(A++C)):=by
 rw[←aB,←aB];exact List.perm_append_comm.append_right C
def oG{l:Nat}{a0:Loop}{vs:LV}{I I' : LH}{env0:Env}{Lg:LH}(b0:a0.state=.ready)(b2:a0.pending=none)(a9:vs.length=a0.params.size)(b5:∀p∈a0.params,p<N)
  (ht:EnvOk N env ⟨a0.tmps,[]⟩) (h:G P N a0.assign (penv env (a0.params.toList.zip vs)) I (Post.seq (fun a3 L'=>G P N a0.body a3 L' (ri K env0 Lg I')) (fun _ _ _=>False))) :
  YTri P l vs [cm (own l (.loop a0)::I)] (fun v L'=>(v=.bool true∧L' = [cm (own l (.loop a0)::I')])∨(v=.bool false∧L' = [hex fun x:Code×LH=>cm (cY (io K env0 Lg x.1 x.2)::own l (.loop { a0 with state:=.done,pending:=some x.1 })::x.2)])):=by
 refine⟨fun θ R w s=>?_⟩;have s1:Sat θ (own l (.loop a0)::(I++R)) w:=Sat.ofStars (A:=own l (.loop a0)::I) s;refine⟨a0,s1.own_heap,a9,fun r=>?_⟩;refine roundIn_of_wpIn trivial ?_;show a0.assign.wpIn (FW (some l)) 0 P _ _ w
 have hz:oD a0.tmps a0.params vs.toArray=(a0.params.toList.zip vs).foldl (fun t p=>t.setIfInBounds p.1 p.2) a0.tmps:=by
  unfold oD;rw[←Array.foldl_toList];simp
 have b4:At N (penv env (a0.params.toList.zip vs)) I θ (own l (.loop a0)::R) ⟨oD a0.tmps a0.params vs.toArray,[]⟩ w:=by
  refine⟨[],?_,rfl,s1.perm List.perm_middle.symm⟩;rw[hz];exact EnvOk.a8 (t:=a0.tmps) _ (fun p hp=>b5 p.1 (by have:=List.of_mem_zip hp;simpa using this.1)) ht
 refine wpIn_mono (h (some l) θ (own l (.loop a0)::R) _ w (fun l' a7=>by cases a7;exact⟨a0,R,List.Perm.refl _⟩) b4) ?_;rintro e a' w' ⟨a3,L',⟨M,ea,hm,s2⟩,hk⟩;cases e with
 | normal =>
  have s3:Sat θ (own l (.loop a0)::(L'++(mkH M++R))) w':=s2.perm (by
   rw[←aB,←aB L'];exact dX)
  have b1:=s3.own_heap;have s4:=Sat.c7 (rec':={ a0 with state:=.busy }) s3;refine⟨{ w' with heap:=w'.heap.setIfInBounds l (.loop { a0 with state:=.busy }) },?_,?_⟩
  ·unfold Instr.beginRound;rw[Sem.run_bind,iX b1];simp only[Result.andThen_ok];rw[Sem.run_bind,ke b1];simp[b0]
  have a6:At N a3 L' θ (own l (.loop { a0 with state:=.busy })::R) a' { w' with heap:=w'.heap.setIfInBounds l (.loop { a0 with state:=.busy }) }:=by
   refine⟨M,ea,hm,s4.perm ?_⟩;rw[←aB,←aB L'];exact List.perm_middle.symm
  refine wpIn_mono (hk (some l) θ (own l (.loop { a0 with state:=.busy })::R) a' _ (fun l' a7=>by cases a7;exact⟨_,R,List.Perm.refl _⟩) a6) ?_;rintro e2 a2 w2 ⟨b3,L2,⟨M2,b6,b7,s5⟩,a4⟩
  have s6:Sat θ (own l (.loop { a0 with state:=.busy })::(L2++(mkH M2++R))) w2:=s5.perm (by
   rw[←aB,←aB L2];exact dX)
  have a5:=s6.own_heap
  have a1:∀{A:HP} {w:World},Sat θ (A::(L2++(mkH M2++R))) w→Sat θ (A::(L2++R)) w:=by
   intro A w s;have s' : Sat θ (mkH M2++(A::(L2++R))) w:=s.perm ((List.Perm.cons A perm_front).trans List.perm_middle.symm);exact Ent.nil (mkH M2) θ _ w s'
  cases e2 with
  | normal =>
   have s7:=Sat.c7 (rec':=a0) s6;refine⟨.bool true,{ w2 with heap:=w2.heap.setIfInBounds l (.loop a0) },?_,?_⟩
   ·unfold Instr.endRound;rw[Sem.run_bind,iX a5];simp only[Result.andThen_ok];rw[Sem.run_bind]
    have e:({ ({ a0 with state:=.busy }:Loop) with state:=if(none:Option Code).isNone then .ready else .done,pending:=none }:Loop)=a0:=by
     cases a0;simp only[] at b0 b2;subst b0 b2;rfl
    rw[e,ke a5];simp
   ·refine⟨.bool true,_,rfl,.inl ⟨rfl,rfl⟩,?_⟩;have s8:=a1 s7;have s9:Sat θ (I'++(own l (.loop a0)::R)) { w2 with heap:=w2.heap.setIfInBounds l (.loop a0) }:=a4 θ _ _ (s8.perm List.perm_middle.symm);exact Sat.a8 (A:=own l (.loop a0)::I') (s9.perm dX)
  | ret =>
   have s7:=Sat.c7 (rec':={ a0 with state:=.done,pending:=some .ret }) s6;refine⟨.bool false,_,?_,⟨.bool false,_,rfl,.inr ⟨rfl,rfl⟩,Sat.d8 (f:=fun x:Code×LH=>cm (cY (io K env0 Lg x.1 x.2)::own l (.loop { a0 with state:=.done,pending:=some x.1 })::x.2)) (.ret,L2) (Sat.a8 (A:=cY (io K env0 Lg .ret L2)::own l (.loop { a0 with state:=.done,pending:=some .ret })::L2) (Sat.addPure (a1 s7) a4))⟩⟩;unfold Instr.endRound;rw[Sem.run_bind,iX a5];simp only[Result.andThen_ok];rw[Sem.run_bind];have e:({ ({ a0 with state:=.busy }:Loop) with state:=if(some Code.ret:Option Code).isNone then .ready else .done,pending:=some .ret }:Loop)={ a0 with state:=.done,pending:=some .ret }:=rfl;rw[e,ke a5];simp
  | exit id =>
   have s7:=Sat.c7 (rec':={ a0 with state:=.done,pending:=some (.exit id) }) s6;refine⟨.bool false,_,?_,⟨.bool false,_,rfl,.inr ⟨rfl,rfl⟩,Sat.d8 (f:=fun x:Code×LH=>cm (cY (io K env0 Lg x.1 x.2)::own l (.loop { a0 with state:=.done,pending:=some x.1 })::x.2)) (.exit id,L2) (Sat.a8 (A:=cY (io K env0 Lg (.exit id) L2)::own l (.loop { a0 with state:=.done,pending:=some (.exit id) })::L2) (Sat.addPure (a1 s7) a4))⟩⟩;unfold Instr.endRound;rw[Sem.run_bind,iX a5];simp only[Result.andThen_ok];rw[Sem.run_bind];have e:({ ({ a0 with state:=.busy }:Loop) with state:=if(some (Code.exit id):Option Code).isNone then .ready else .done,pending:=some (.exit id) }:Loop)={ a0 with state:=.done,pending:=some (.exit id) }:=rfl;rw[e,ke a5];simp
  | goto t=>exact a4.elim
  | panic c=>exact a4.elim
  | outgrown=>exact a4.elim
 | exit id=>exact hk.elim
 | goto t=>exact hk.elim
 | ret=>exact hk.elim
 | panic c=>exact hk.elim
 | outgrown=>exact hk.elim
def jA{l:Nat}{a0:Loop}{w:World}(h:w.heap[l]? = some (.loop a0))(hs:a0.state≠.busy):(Instr.endLoop l).run P w=.ok a0.pending { w with heap:=w.heap.setIfInBounds l (.loop { a0 with state:=.exhausted }) }:=by
 unfold Instr.endLoop;rw[Sem.run_bind,iX h];simp only[Result.andThen_ok]
 have hb:(a0.state == LoopState.busy)=false:=by
  cases hr:a0.state<;>first|rfl|exact absurd hr hs
 rw[hb];simp only[fY,if_false];rw[Sem.run_bind];simp only[Sem.run_pure];rw[ke h];simp
def jH{fn:FuncId}{tmps:Array Value}{ps:Array Tmp}{assign body:Code}{w:World} :
  (Instr.enterLoop fn tmps ps assign body none).run P w=.ok (w.heap.size+1,[{ target:=.collected w.heap.size,args:=#[] }]) ((w.alloc (.deferred (some []))).alloc (.loop { state:=.ready,pending:=none,fn,tmps,params:=ps,assign,body,defers:=w.heap.size })):=by
 unfold Instr.enterLoop;simp[go_sem]
def jG{fn:FuncId}{tmps:Array Value}{ps:Array Tmp}{assign body:Code}{w:World}{l:Nat}{a0:Loop}(h:w.heap[l]? = some (.loop a0)) :
  (Instr.enterLoop fn tmps ps assign body (some l)).run P w=.ok (w.heap.size,[]) (w.alloc (.loop { state:=.ready,pending:=none,fn,tmps,params:=ps,assign,body,defers:=a0.defers })):=by
 unfold Instr.enterLoop;simp only[];rw[Sem.run_bind,iX h];simp[go_sem]
def G.rangeFunc{g:Operand}{ps:Array Tmp}{assign body:Code}{gf:FuncId}{cap:LV}{a2:List (LV)}{Lg:LH}(it:Iter P gf cap a2 Lg)(hg:evE env g=some (.func (.func gf) #[] cap.toArray))
  (b4:Enters P gf) (b7:∀p∈ps,p<N) (a9:∀vs∈a2,vs.length=ps.size) (I:Nat→LH) (hl:Ent L (I 0++Lg))
  (a4:∀k (hk:k<a2.length),G P N assign (penv env (ps.toList.zip a2[k])) (I k) (Post.seq (fun a7 L'=>G P N body a7 L' (ri K env Lg (I (k+1)))) (fun _ _ _=>False)))
  (a5:K .normal env (I a2.length++Lg)):G P N (.rangeFunc g ps assign body) env L K:=by
 intro r θ Y a w hr i;obtain⟨M,ea,hm,s⟩:=i;have s0:Sat θ (I 0++Lg++(mkH M++Y)) w:=hl θ _ w s;-- what is the same in both cases
 have a6:∀(fn:FuncId) (l D:Nat) (a0:List Nat) (w₁:World),(Instr.enterLoop fn a.tmps ps assign body r).run P w=.ok (l,mkD a0) w₁ →
   Sat θ (own l (.loop { state:=.ready,pending:=none,fn,tmps:=a.tmps,params:=ps,assign,body,defers:=D })::(mkH a0++(I 0++Lg++(mkH M++Y)))) w₁ →
   ∃(l:Nat) (a0:List Deferred) (w₁:World) (d:Deferred) (w₁' : World) (f:FuncId) (args:Array Value) (w₂:World),
   (Instr.enterLoop fn a.tmps ps assign body (FW r).round).run P w=.ok (l,a0) w₁ ∧
   (resolve a.eval (rangeCall g l) 0).run P w₁=.ok d w₁' ∧
   (∀f',Target.leads P w₁' d.target d.args=some f'→(FW r).fn f') ∧
   (invoke d.target d.args).run P w₁' = .ok (.enter f args) w₂ ∧
   ((FW r).depth.isSome=true→1≤0) ∧
   CallsIn (FW r) (0 - 1) P f args w₂ (rangePost (FW r) 0 P l (QK θ Y N K) { a with defers:=a0++a.defers }):=by
  intro fn l D a0 w₁ he s1;obtain⟨a1,a3⟩:∃a1:Loop,a1={ state:=.ready,pending:=none,fn,tmps:=a.tmps,params:=ps,assign,body,defers:=D }:=⟨_,rfl⟩;rw[←a3] at s1;have b2:a1.state=.ready:=by rw[a3]
  have b1:a1.pending=none:=by rw[a3]
  have hy:∀k (hk:k<a2.length),YTri P l a2[k] [cm (own l (.loop a1)::I k)] (fun v L'=>(v=.bool true∧L' = [cm (own l (.loop a1)::I (k+1))])∨(v=.bool false∧L' = [hex fun x:Code×LH=>cm (cY (io K env Lg x.1 x.2)::own l (.loop { a1 with state:=.done,pending:=some x.1 })::x.2)])):=by
   intro k hk;refine oG b2 b1 (by rw[a3];exact a9 _ (bR _)) (by rw[a3];exact b7) (env:=env) ?_ ?_
   ·rw[a3];exact⟨ea.size,ea.at_⟩
   ·rw[a3];exact a4 k hk
  have ht:=it l (fun k=>cm (own l (.loop a1)::I k)) (fun _=>hex fun x:Code×LH=>cm (cY (io K env Lg x.1 x.2)::own l (.loop { a1 with state:=.done,pending:=some x.1 })::x.2)) hy;have b5:a.eval g=.func (.func gf) #[] cap.toArray:=aL ea.agr hg;refine⟨l,mkD a0,w₁,{ target:=.fn (.func gf) cap.toArray,args:=#[.func (.yield l) #[] #[]] },w₁,gf,(.func (.yield l) #[] #[]::cap).toArray,w₁,he,?_,fun _ _=>trivial,?_,(fun h=>by cases h),mC ?_⟩
  ·simp only[resolve,Deferred.ofValue,b5];simp[Act.eval]
  ·have:=b4 (.func (.yield l) #[] #[]::cap).toArray w₁
   simpa [invoke] using this
  have s2:Sat θ (cm (own l (.loop a1)::I 0)::Lg++(mkH a0++(mkH M++Y))) w₁:=by
   refine Sat.a8 (A:=own l (.loop a1)::I 0) (s1.perm ?_);simp only[al];refine List.Perm.cons _ ?_;rw[aB];refine perm_front.trans ?_;refine List.Perm.append_left _ ?_;exact perm_front
  refine(ht.calls θ _ w₁ s2).mono ?_;rintro e w₂ ⟨v,L',rfl,b3,s3⟩;rcases b3 with rfl|⟨k,rfl⟩
  ·have s4:Sat θ (own l (.loop a1)::(I a2.length++(Lg++(mkH a0++(mkH M++Y))))) w₂:=Sat.ofStars (A:=own l (.loop a1)::I a2.length) s3;have hh:=s4.own_heap;refine⟨none,_,(by rw[←b1];exact jA hh (by rw[b2];simp)),?_⟩;have s5:=(Sat.c7 (rec':={ a1 with state:=.exhausted }) s4).tail;refine⟨env,I a2.length++Lg,⟨a0++M,⟨ea.size,ea.at_⟩,by simp[mkD,hm],?_⟩,a5⟩;have e:mkH (a0++M)++Y=mkH a0++(mkH M++Y):=by simp[mkH]
   rw[e,aB];exact s5
  ·obtain⟨⟨c,L₂⟩,s4⟩:=Sat.ofHex (L:=Lg++(mkH a0++(mkH M++Y))) s3;have s5:Sat θ (cY (io K env Lg c L₂)::(own l (.loop { a1 with state:=.done,pending:=some c })::(L₂++(Lg++(mkH a0++(mkH M++Y)))))) w₂:=Sat.ofStars (A:=cY (io K env Lg c L₂)::own l (.loop { a1 with state:=.done,pending:=some c })::L₂) s4;have hj:=s5.ofPure;have s6:=s5.tail;have hh:=s6.own_heap;have s7:=(Sat.c7 (rec':={ ({ a1 with state:=.done,pending:=some c }:Loop) with state:=.exhausted }) s6).tail;refine⟨some c,_,jA hh cc,?_⟩
   have b0:At N env (L₂++Lg) θ Y { a with defers:=mkD a0++a.defers } { w₂ with heap:=w₂.heap.setIfInBounds l (.loop { ({ a1 with state:=.done,pending:=some c }:Loop) with state:=.exhausted }) }:=by
    refine⟨a0++M,⟨ea.size,ea.at_⟩,by simp[mkD,hm],?_⟩;have e:mkH (a0++M)++Y=mkH a0++(mkH M++Y):=by simp[mkH]
    rw[e,aB];exact s7
   cases c with
   | ret=>exact wpIn_ret ⟨env,_,b0,hj⟩
   | exit id=>exact wpIn_exit ⟨env,_,b0,hj⟩
   | _=>exact hj.elim
 refine wpIn_rangeFunc fun fn _=>?_;cases r with
 | none =>
  have s1:=s0.alloc (o:=.deferred (some []));have s2:=s1.alloc (o:=.loop { state:=.ready,pending:=none,fn,tmps:=a.tmps,params:=ps,assign,body,defers:=w.heap.size });refine a6 fn (w.heap.size+1) w.heap.size [w.heap.size] _ jH ?_;rw[World.size_alloc] at s2;exact s2
 | some l =>
  obtain⟨a1,Y',hY⟩:=hr l rfl
  have b6:w.heap[l]? = some (.loop a1):=by
   have s1:Sat θ (own l (.loop a1)::(I 0++Lg++(mkH M++Y'))) w:=s0.perm (by
    have h1:(I 0++Lg++(mkH M++Y)).Perm (I 0++Lg++(mkH M++(own l (.loop a1)::Y'))):=(hY.append_left _).append_left _;refine h1.trans ?_;rw[←aB,←aB (I 0++Lg)];exact dX)
   exact s1.own_heap
  exact a6 fn w.heap.size a1.defers [] _ (jG b6) s0.alloc
end fv
end
section
section
variable {P:Program}{env:Env}{L:LH}{ty:TypeId}
def Ev.bits{op:BinOp}{t yt:TypeId}{x y:Operand}{k:IntKind}{a b:Int}(ho:op=.and∨op=.or∨op=.xor)(hx:evE env x=some (.int k a))(hy:evE env y=some (.int k b)):Ev P L env (.binOp op t x y yt) ty (.int k (Go.bits op k a b)) :=
 Ev.mk (fun _ _ _ w ea _ _ _ _ _=>ip (aL ea hx) (aL ea hy) (by rcases ho with rfl|rfl|rfl<;>simp[go_sem]))
def Ev.v7{t yt:TypeId}{x y:Operand}{a b:Int}(hx:evE env x=some (.int .u64 a))(hy:evE env y=some (.int .u64 b))(h1:0≤a)(h2:a<18446744073709551616)(h3:0≤b)(h4:b<18446744073709551616):Ev P L env (.binOp .xor t x y yt) ty (.int .u64 ((a.toNat ^^^ b.toNat:Nat):Int)):=by
 have:=Ev.bits (P:=P) (L:=L) (ty:=ty) (t:=t) (yt:=yt) (op:=.xor) cc hx hy
 rwa [u64_xor a b h1 h2 h3 h4] at this
def Ev.x7{t yt:TypeId}{x y:Operand}{a b:Int}(hx:evE env x=some (.int .u64 a))(hy:evE env y=some (.int .u64 b))(h1:0≤a)(h2:a<18446744073709551616)(h3:0≤b)(h4:b<18446744073709551616):Ev P L env (.binOp .or t x y yt) ty (.int .u64 ((a.toNat ||| b.toNat:Nat):Int)):=by
 have:=Ev.bits (P:=P) (L:=L) (ty:=ty) (t:=t) (yt:=yt) (op:=.or) cc hx hy
 rwa [u64_or a b h1 h2 h3 h4] at this
def Ev.w8{t yt:TypeId}{x y:Operand}{a b:Int}(hx:evE env x=some (.int .u64 a))(hy:evE env y=some (.int .u64 b))(h1:0≤a)(h2:a<18446744073709551616)(h3:0≤b)(h4:b<18446744073709551616):Ev P L env (.binOp .and t x y yt) ty (.int .u64 ((a.toNat &&& b.toNat:Nat):Int)):=by
 have:=Ev.bits (P:=P) (L:=L) (ty:=ty) (t:=t) (yt:=yt) (op:=.and) cc hx hy
 rwa [u64_and a b h1 h2 h3 h4] at this
def Ev.A3{t yt:TypeId}{x y:Operand}{a b:Int}(hx:evE env x=some (.int .u8 a))(hy:evE env y=some (.int .u8 b))(h1:0≤a)(h2:a<256)(h3:0≤b)(h4:b<256):Ev P L env (.binOp .and t x y yt) ty (.int .u8 ((a.toNat &&& b.toNat:Nat):Int)):=by
 have:=Ev.bits (P:=P) (L:=L) (ty:=ty) (t:=t) (yt:=yt) (op:=.and) cc hx hy
 rwa [u8_and a b h1 h2 h3 h4] at this
def Ev.or8{t yt:TypeId}{x y:Operand}{a b:Int}(hx:evE env x=some (.int .u8 a))(hy:evE env y=some (.int .u8 b))(h1:0≤a)(h2:a<256)(h3:0≤b)(h4:b<256):Ev P L env (.binOp .or t x y yt) ty (.int .u8 ((a.toNat ||| b.toNat:Nat):Int)):=by
 have:=Ev.bits (P:=P) (L:=L) (ty:=ty) (t:=t) (yt:=yt) (op:=.or) cc hx hy
 rwa [u8_or a b h1 h2 h3 h4] at this
def Ev.shl{t yt:TypeId}{x y:Operand}{k k' : IntKind}{a b:Int}(hx:evE env x=some (.int k a))(hy:evE env y=some (.int k' b))(h0:0≤b):Ev P L env (.binOp .shl t x y yt) ty (.int k (k.wrap (a*2 ^ min b.toNat k.bits))) :=
 Ev.mk (fun _ _ _ w ea _ _ _ _ _=>ip (aL ea hx) (aL ea hy) (by
  have:¬b<0:=ab
  simp[binOp,Op.shift,this]))
def Ev.shr{t yt:TypeId}{x y:Operand}{k k' : IntKind}{a b:Int}(hx:evE env x=some (.int k a))(hy:evE env y=some (.int k' b))(h0:0≤b):Ev P L env (.binOp .shr t x y yt) ty (.int k (a.fdiv (2 ^ min b.toNat k.bits))) :=
 Ev.mk (fun _ _ _ w ea _ _ _ _ _=>ip (aL ea hx) (aL ea hy) (by
  have:¬b<0:=ab
  simp[binOp,Op.shift,this]))
def Ev.A0{t yt:TypeId}{x y:Operand}{a b:Int}(hx:evE env x=some (.int .u64 a))(hy:evE env y=some (.int .u64 b))(h0:0≤a)(h1:a≤18446744073709551615)(hb:0<b):Ev P L env (.binOp .quo t x y yt) ty (.int .u64 (a / b)) :=
 Ev.mk (fun _ _ _ w ea _ _ _ _ _=>ip (aL ea hx) (aL ea hy) (by
  have a0 : b≠0:=ab;have h2:=je h0 (Int.le_of_lt hb);have h3:=Int.ediv_le_self b h0;simp[binOp,Op.intDiv,a0,Int.tdiv_eq_ediv_of_nonneg h0,IntWalk.u64_in _ (ab:0≤a / b∧a / b≤18446744073709551615)]))
def Ev.r9{t:TypeId}{x:Operand}{s:ByteArray}[ht:TyStr P t](hx:evE env x=some (.string s)):Ev P L env (.call { callee:=.builtin .len,args:=#[x],argTypes:=#[t] }) ty (ac (s.size:Int)) :=
 Ev.mk (fun _ _ _ w ea _ _ _ _ _=>by
  have h:=run_len_string (P:=P) w t ty s ht.under;simp[execOp,resolve,invoke,aL ea hx,builtin,h,goInt])
def gu(s:ByteArray):List Int:=s.data.toList.map fun b=>(b.toNat:Int)
def tA(s:ByteArray):(gu s).length=s.size:=by simp[gu]
def Ef.l8{t:TypeId}{x y:Operand}{E bb:Nat}{z0:Value}{α:Type}(enc:α→LV){n:Int}[ht:TySl P t E 1 bb [z0]](hx:evE env x=some (ac 0))(hy:evE env y=some (ac n))(h0:0≤n)(h1:n*bb≤281474976710656)(h2:n≤1000000000) :
  Ef P L env (.makeSlice t x y) ty (fun v L'=>∃b,v=.slice (some ⟨b,0,none⟩) 0 n.toNat∧L' = osl enc 1 E (some ⟨b,0,none⟩) n.toNat []::L) :=
 Ef.val (fun θ R a w ea s a0 pos af g=>⟨.slice (some ⟨w.heap.size,0,none⟩) 0 n.toNat,w.alloc (.cells (List.replicate n.toNat z0).toArray E),_,by
  obtain⟨ii,zz,i1,i2,i3,i4,i5⟩:=ht.parts
  have hz:zz.cells=#[z0]:=by
   have:=i3
   apply Array.ext';simpa using this
  have hm:madeCells zz.cells (n.toNat*ii.size)=(List.replicate n.toNat z0).toArray:=by
   rw[hz,i4,Nat.mul_one];exact ns _ _ _ (fun i _=>by simp[Nat.mod_one])
  have hk:=run_make (P:=P) w t E ii zz ht.under i1 i2 .i64 .i64 0 n ab h0 (by rw[i5,Int.mul_comm];omega) ab;rw[hm] at hk
  simp[execOp,aL ea hx,aL ea hy,hk],⟨_,rfl,rfl⟩,by
   have s1:=s.alloc (o:=.cells (List.replicate n.toNat z0).toArray E);exact Sat.osl_mk (enc:=enc) (sz:=1) (cap:=n.toNat) (xs:=[]) (L:=L++R) s1 cc cc (by simp only[maxLen];omega) cc cc⟩)
end
end
section
section gf
variable {P:Program}{N:Nat}{ops:Array Oper}{done:List Nat}{n:Nat}{pend:List PE}{env:Env}{L:LH}{K:Post}
def GF(P:Program)(N:Nat)(a0:Array Oper)(done:List Nat)(n:Nat)(a1:List PE)(env:Env)(L:LH)(K:Post):Prop :=
 NoP K→Region.noSelect a0=true→Closed .any a0 (dZ a0.size done) →
 ∀θ Y a w S,At N env L θ Y a w→lX P a1 S→(∀p∈S,p.2 w) →
  wpAnyP P .any a0 (QK θ Y N K) (dpB a0) n (dZ a0.size done) S a w
def GF.plan(plan:List Stp)(hp:jq ops done plan=true)(hn:plan.length=n)(h:GP P N ops done plan pend env L K):GF P N ops done n pend env L K :=
 fun hK hs a0 θ Y a w S i a1 a2=>hn▸h hK hp hs a0 θ Y a w S i a1 a2
def G.d9{id:Nat}{l:List Oper}[hK:NoP K](hm:P.follows .mixedOrders=true)(hp:(Region.noSelect l.toArray && noDefer l.toArray)=true)(h:GF P N l.toArray [] l.toArray.size [] env L K):G P N (.region id l.toArray true) env L K:=by
 intro r θ Y a w hr i;simp only[kh] at hp;obtain⟨h3,h4⟩:=hp;refine wpIn_region_any hm (ou h4 (by rintro⟨a',w',env,L,_,h⟩;exact hK.out env L h) _ _ _ _ (wpAnyP.a8 (dep:=dpB l.toArray) _ _ [] _ _ ?_));obtain⟨M,ea,a0,s⟩:=i;exact h hK h3 (Closed.a8 _) θ Y a { w with drawn:=w.drawn+1 } [] ⟨M,ea,a0,s.drew⟩ (by intro p hp;cases hp) cc
def GF.c7{i d:Nat}{op:Op}{ty:TypeId}{pos:String}{af:Array Edge}{g:Option (Nat×Bool)}{v:Value}{a0 : List PE}(hi:ops[i]? = some ⟨some d,op,ty,pos,af,g⟩)(hd:d<N)
  (hr:((Region.ready .any ops (dZ ops.size done)).contains i && Region.free .any ops (dZ ops.size done) i)=true)
  (hy:∀θ R a w,EnvOk N env a→Sat θ (L++R) w→∃Si,YieldsIf P ops Si ⟨some d,op,ty,pos,af,g⟩ v a∧Si w∧∀S,lX P pend S→lX P a0 ((i,Si)::S))
  (h:GF P N ops (i::done) n a0 ((d,v)::env) L K):GF P N ops done (n+1) pend env L K:=by
 intro hK hs a2 θ Y a w S i0 a6 a3;simp only[kh,List.contains_iff_mem] at hr;obtain⟨h1,h2⟩:=hr;obtain⟨M,ea,a5,s⟩:=i0;obtain⟨Si,a7,a4,a9⟩:=hy θ _ a w ea s
 have a1:∀p∈(i,Si)::S,p.2 w:=fun p hp=>by
  rcases List.mem_cons.1 hp with rfl|hp
  ·exact a4
  ·exact a3 p hp
 refine wpAnyP.first hi (Region.noSelect_spec hs) (fun c a w q=>(zg hK c _ w q).elim) (fun j hj=>sC _ j i hj) _ _ S a w a2 (Region.free_spec hi h2) h1 a7 a4 a3 ?_;exact h hK hs (a2.set h1) θ Y (a.put (some d) v) w _ ⟨M,ea.put hd v,by rw[defers_put];exact a5,s⟩ (a9 S a6) a1
def GF.evP{i d:Nat}{op:Op}{ty:TypeId}{pos:String}{af:Array Edge}{v:Value}(hi:ops[i]? = some ⟨some d,op,ty,pos,af,none⟩)
  (hr:((Region.ready .any ops (dZ ops.size done)).contains i && Region.free .any ops (dZ ops.size done) i)=true) (he:Ev P [] env op ty v) (hd:d<N) (h:GF P N ops (i::done) n pend ((d,v)::env) L K):GF P N ops done (n+1) pend env L K:=by
 refine GF.c7 hi hd hr (fun θ R a w ea s=>⟨fun _=>True,.inl ⟨rfl,?_⟩,trivial,fun S hS p hp=>?_⟩) h
 ·intro w' _;exact he ⟨w'.tape,w'.os,w'.output,0⟩ [] a.eval w' _ ea.agr ⟨⟨rfl,rfl,rfl,aw _⟩,Hp.emp,Hp.emp,Hp.c7 _,Hp.a8 _,Hp.a8 _,trivial⟩ rfl rfl
 ·rcases List.mem_cons.1 hp with rfl|hp
  ·exact .inl fun _=>trivial
  ·exact hS p hp
def GF.evL{i d:Nat}{op:Op}{ty:TypeId}{pos:String}{af:Array Edge}{v:Value}(hi:ops[i]? = some ⟨some d,op,ty,pos,af,none⟩)
  (hr:((Region.ready .any ops (dZ ops.size done)).contains i && Region.free .any ops (dZ ops.size done) i)=true) (he:Ev P L env op ty v) (hd:d<N) (h:GF P N ops (i::done) n (⟨i,op,ty,env,v⟩::pend) ((d,v)::env) L K):GF P N ops done (n+1) pend env L K:=by
 refine GF.c7 hi hd hr (fun θ R a w ea s=>⟨fun w'=>(execOp a.eval ⟨some d,op,ty,pos,af,none⟩).run P w' = .ok (.value v) w',.inl ⟨rfl,fun w' h=>h⟩,he θ R a.eval w _ ea.agr s rfl rfl,fun S hS p hp=>?_⟩) h;rcases List.mem_cons.1 hp with rfl|hp
 ·exact .inr ⟨_,av,rfl,a.eval,_,ea.agr,rfl,rfl,fun w h=>h⟩
 ·rcases hS p hp with h|⟨pe,h1,h2⟩
  ·exact .inl h
  ·exact .inr ⟨pe,au _ h1,h2⟩
def GE(P:Program)(N:Nat)(a0:Array Oper)(done:List Nat)(j n:Nat)(a1:List PE)(env:Env)(L:LH)(K:Post):Prop :=
 NoP K→Region.noSelect a0=true→Closed .any a0 (dZ a0.size done)→j∈Region.ready .any a0 (dZ a0.size done) →
 ∀θ Y a w S,At N env L θ Y a w→lX P a1 S→(∀p∈S,p.2 w) →
  wpOp P a0 (QK θ Y N K) j (fun a' w'=>(∀p∈kp (dpB a0) j S,p.2 w')∧wpAnyP P .any a0 (QK θ Y N K) (dpB a0) n ((dZ a0.size done).setIfInBounds j true) (kp (dpB a0) j S) a' w') a w
def GF.a8(i j:Nat)(hr:(Region.ready .any ops (dZ ops.size done) == [i,j])=true)(h1:GE P N ops done i n pend env L K)(h2:GE P N ops done j n pend env L K):GF P N ops done (n+1) pend env L K:=by
 intro hK hs a2 θ Y a w S i0 a3 a4;have a1:=eq_of_beq hr;refine⟨fun h0=>(by rw[h0] at a1;cases a1),fun k hk=>?_⟩;have a0:=hk;rw[a1] at a0;rcases List.mem_cons.1 a0 with rfl|a0
 ·exact h1 hK hs a2 hk θ Y a w S i0 a3 a4
 ·obtain rfl:=List.mem_singleton.1 a0;exact h2 hK hs a2 hk θ Y a w S i0 a3 a4
def GE.ef{j d:Nat}{op:Op}{ty:TypeId}{pos:String}{af:Array Edge}{post:Value→LH→Prop}(hi:ops[j]? = some ⟨some d,op,ty,pos,af,none⟩)(he:Ef P L env op ty post)(hd:d<N)
  (h:∀v L',post v L'→(∀pe∈pend,Ev P L' pe.env pe.op pe.ty pe.v)∧GF P N ops (j::done) n pend ((d,v)::env) L' K):GE P N ops done j n pend env L K:=by
 intro hK hs a2 a3 θ Y a w S i0 a6 a9;obtain⟨M,ea,a4,s⟩:=i0;unfold wpOp;have hw:Region.wanted ⟨some d,op,ty,pos,af,none⟩ (yielded ops a.tmps)=true:=rfl;simp only[hi,hw,if_true];refine .inl (he θ _ a w _ _ _ ea.agr s rfl rfl fun v L' w' a0 s'=>?_);obtain⟨k1,k3⟩:=h v L' a0
 have a1:∀p∈kp (dpB ops) j S,p.2 w'∧((∀w,p.2 w)∨∃pe∈pend,pe.idx=p.1∧∃ρ o,Agr pe.env ρ∧o.op=pe.op∧o.type=pe.ty∧∀w,(execOp ρ o).run P w=.ok (.value pe.v) w→p.2 w):=by
  intro p hp;obtain⟨a5,a7⟩:=List.mem_filter.1 hp;rcases a6 p a5 with h|⟨pe,h1,h2,ρ,o,h4,h5,h6,h7⟩
  ·exact⟨h w',.inl h⟩
  ·exact⟨h7 w' (k1 pe h1 θ _ ρ w' o h4 s' h5 h6),.inr ⟨pe,h1,h2,ρ,o,h4,h5,h6,h7⟩⟩
 exact⟨fun p hp=>(a1 p hp).1,k3 hK hs (a2.set a3) θ Y _ w' _ ⟨M,ea.put hd v,by rw[defers_put];exact a4,s'⟩ (fun p hp=>(a1 p hp).2) (fun p hp=>(a1 p hp).1)⟩
end gf
end
section
section closed
variable {P:Program}{N:Nat}{env:Env}{L:LH}{K:Post}
def GR(P:Program)(N:Nat)(c:Code):Nat→Env→LH→Post→Prop
 | 0,_,_,_=>False
 | m+1,env,L,K=>G P N c env L (K.seq fun a0 L'=>GR P N c m a0 L' K)
def GR.step{c:Code}{m:Nat}(h:G P N c env L (K.seq fun a0 L'=>GR P N c m a0 L' K)):GR P N c (m+1) env L K:=h
def G.f7{c:Code}(m:Nat)(h:GR P N c m env L K):G P N (.loop c) env L K:=by
 intro r θ Y a w hr i;refine wpIn_loop_rounds m ?_;induction m generalizing env L a w with
 | zero=>exact h.elim
 | succ m ih =>
  rw[roundsIn_succ];refine wpIn_mono (h r θ Y a w hr i) ?_;rintro ex a' w' ⟨a0,L',i',hk⟩;cases ex with
  | normal=>exact ih hk a' w' i'
  | exit id=>exact⟨a0,L',i',hk⟩
  | goto l=>exact⟨a0,L',i',hk⟩
  | ret=>exact⟨a0,L',i',hk⟩
  | panic ch=>exact⟨a0,L',i',hk⟩
  | outgrown=>exact⟨a0,L',i',hk⟩
class FnOf (P:Program) (f:FuncId) (N:outParam Nat) (c:outParam Code) (rs:outParam (List ResultVar)):Prop where
 enters:Enters P f
 fn:∃fn:Func,P.funcs[f]? = some fn∧fn.body=some c∧fn.results=rs.toArray∧fn.ntmps=N
def Tri.inPlace{f:FuncId}{N:Nat}{c:Code}{rs:List ResultVar}{args:LV}{post:Value→LH→Prop}[h:FnOf P f N c rs](hN:args.length≤N)(hg:G P N c (env0 args 0) L (Ends P N rs post)):Tri P f args.toArray L post:=by
 obtain⟨fn,h1,h2,h3,h4⟩:=h.fn;exact Tri.body N h.enters h1 h2 h3 h4 hN hg
