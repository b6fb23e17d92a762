/- Lemmas. -/
import Derived.Test.YtlgpgjdggilkgaaGreatDoorEtad
import Derived.ProofKit
import Derived.Carry
import Derived.ChangeSlices
import Derived.ChangeSame
import Derived.OpenShut
import Derived.Laws.Externs
import Derived.MapKept
import Derived.Laws.BitsAllLaws
import Derived.Laws.DeepNot64
import Derived.Laws.IdiomStrings
import Derived.LoopNIn
set_option linter.all false
namespace Go.V
section
open Go.ChangeShapes Go.WideShapes Go.ChangeAt Go.RowKit
def xu(w:World):HP:=λι _=>Hp.sub (ib w) ι
def M6.snoc{L:Η}{ι h:Hp}{p:HP}(s:M6 L ι h)(hp:p ι Hp.emp):M6 (L++[p]) ι h:=by
 induction L generalizing h with
 | nil=>exact⟨ι,Hp.emp,h,Hp.sub.refl _,Hp.c7 _,Hp.a8 _,Hp.sub.refl _,hp,trivial⟩
 | cons q L ih =>
  obtain⟨G6,E4,D4,a,b,c,Μ,e,f⟩:=s;exact⟨G6,E4,D4,a,b,c,Μ,e,ih f⟩
def Τ.law{P:Program}{f:FuncId}{args:Array Value}{L:Η}{v:Value}{post:Η->Prop}(h:Τ P f args L (λu Γ=>u=v/\post Γ))(w:World)(hs:M6 L (ib w) Hp.emp) :
  Calls P f args w λe cO=>e=.returned v/\Below w.heap.size w cO:=by
 have s0:Sat ⟨w.tape,w.os,w.output,w.drawn⟩ (L++[xu w]) w:=⟨⟨rfl,rfl,rfl,an _⟩,ib w,Hp.emp,λ_ _ _=>rfl,Hp.sub.refl _,Hp.a8 _,hs.snoc (Hp.sub.refl _)⟩;refine(h.calls _ _ w s0).mono ?_;rintro e cO ⟨u,Γ,rfl,⟨rfl,_⟩,s1⟩;refine⟨rfl,?_⟩;have s2:Sat ⟨w.tape,w.os,w.output,w.drawn⟩ (xu w::Γ) cO:=s1.perm (List.perm_append_singleton _ _);obtain⟨ok,ι,h,a,b1,c,G6,E4,D4,d1,d2,d3,d4,d5,d6⟩:=s2;have hk:∀k o,w.heap[k]? = some o->cO.heap[k]? = some o:=λk o O=>b1 k o (d1 k o (d5 k o O));refine⟨ok.os,ok.tape,ok.output,?_,λk B=>?_⟩
 .rcases Nat.lt_or_ge cO.heap.size w.heap.size with a2|M
  .have K:=hk cO.heap.size _ (Array.getElem?_eq_getElem a2);rw[Array.getElem?_eq_none (an _)] at K;cases K
  .exact M
 .rw[Array.getElem?_eq_getElem B];exact hk k _ (Array.getElem?_eq_getElem B)
def DG{H:Type}{Ε:TypeId×Value->H}{P:Program}{f:Func}{s:ChangeSpec}{apart fresh M:Bool}{W W' : World}{args:Array Value}{v:Value}{ds gs:List (DataW H)}{B pa pv:List MemPlace}
  (hW:DataW.Whole Ε P f.params.toList s.vars apart W args.toList ds gs B)
  (a4:∀(b:Nat) (sp:Nat->Bool) (hd:Bool),DataW.TrodAll Ε P W' b sp hd f.resultTypes.toList (v.resultList f.resultTypes.size) (s.fn H (ds++gs)).results [])
  (a2:DataW.TrodAll Ε P W' 0 (λb=>decide (b<W.heap.size)) true f.params.toList args.toList (s.fn H (ds++gs)).args pa)
  (a3:DataW.TrodVars Ε P W' (λb=>decide (b<W.heap.size)) s.vars (s.fn H (ds++gs)).vars pv)
  (a5:B=pa++pv) (hb:Below W.heap.size W W') :
  s.post Ε P f apart fresh M false W args v W':=by
 refine⟨ds,gs,B,[],pa,pv,hW,a4 _ _ _,a2,a3,World.keptBut_mono (λp hp=>⟨hp,?_⟩) (hb.frame (·∈B)),λh=>by cases h⟩;rw[a5,List.mem_append] at hp;exact Or.inr hp
def zp{w:World}{k:IntKind}{b off len:Nat}{zs:List Int}(hc:∀i,i<zs.length->w.cell? ⟨b,off+i,none⟩=some (.int k (zs.getD i 0)))(U:len<=zs.length):ξ (dJ k) 1 (some ⟨b,off,none⟩) (zs.take len) (ib w) Hp.emp:=by
 refine⟨λ_ _=>rfl,?_⟩;rcases Nat.eq_zero_or_pos (zs.take len).length with h0|B
 .exact .inl (cd h0)
 right;have hz:0<zs.length:=by simp at B;omega
 have h0:=hc 0 hz;cases hb:w.heap[b]? with
 | none=>simp[World.cell?,hb] at h0
 | some o =>
  cases o with
  | cells cur η fz =>
   refine⟨b,off,cur,η,fz,rfl,hb,λi v hv=>?_⟩;rw[og] at hv
   have hi:i<(zs.take len).length:=by
    rcases Nat.lt_or_ge i (zs.take len).length with h|h
    .exact h
    .rw[List.getElem?_eq_none (by simpa using h)] at hv;cases hv
   have K:=hc i (by simp at hi;omega);rw[eh hb] at K;rw[K,<-hv];simp only[aP] at hi;simp[show i<len by omega,List.getD,List.getElem?_eq_getElem (D:i<zs.length)]
  | _=>simp[World.cell?,hb] at h0
def M6.push{L:Η}{ι:Hp}{p:HP}(hp:p ι Hp.emp)(s:M6 L ι Hp.emp):M6 (p::L) ι Hp.emp:=⟨ι,Hp.emp,Hp.emp,Hp.sub.refl _,Hp.c7 _,Hp.a8 _,Hp.sub.refl _,hp,s⟩
abbrev qq(W:World)(b:Nat):Option Obj:=W.heap[b]?
def CA{H:Type}{Ε:TypeId×Value->H}{P:Program}{W:World}{t e:TypeId}{k:IntKind}{ad:OA}{len cap:Nat}{Μ:DataW H}{p:List MemPlace}(ht:P.underlying t=some (.slice e))(he:P.underlying e=some (.int k))(hc:P.cellsOf e=1)
  (h:DataW.Trod Ε P W 0 (λ_=>true) true t (.slice ad len cap) Μ p):∃I:List Int,ξ (dJ k) 1 ad I (ib W) Hp.emp/\len=I.length/\(len<=cap/\cap<=maxLen)/\∀x∈I,(Lit.int k x).wf=true:=by
 obtain⟨fuel,hf⟩:=h;rcases open_ints ht he hc hf with⟨M,O⟩|⟨a,a6,a4,zs,M,_,U,hm,hz,O,B,a5⟩
 .simp[Value.cells] at M;obtain⟨rfl,rfl,rfl⟩:=M;exact⟨[],⟨by simp,.inl rfl⟩,rfl,⟨by simp,by simp⟩,by simp⟩
 .simp[Value.cells] at M;obtain⟨rfl,rfl,rfl⟩:=M;simp only[if_true] at hz;refine⟨zs.take len,?_,by simp[aP];omega,⟨U,hm⟩,λx O=>a5 x (cp O)⟩;rcases Nat.eq_zero_or_pos zs.length with h0|a3
  .have:zs=[]:=cd h0;subst this;exact⟨by simp,.inl cj⟩
  .have K:=B 0 a3;obtain⟨b,off,a2⟩:=a
   have hs:a2=none:=by
    rw[qm] at K;unfold World.cell? at K;cases hb:qq W b with
    | none=>simp[qq] at hb;simp[hb] at K
    | some o =>
     simp only[qq] at hb;simp only[hb] at K;cases o with
     | cells c η fz=>cases a2 with
      | none=>rfl
      | some x=>simp at K
     | _=>simp at K
   subst hs;exact zp (λi hi=>by rw[<-iR];exact B i hi) D
def xH{a:Int}(h:(Lit.int .i64 a).wf=true) : -9223372036854775808<=a/\a<=9223372036854775807:=by
 simp[Lit.wf,IntKind.min,IntKind.max,IntKind.signed,IntKind.bits] at h;omega
end
section
structure SQ where
 ad:OA
 n:Nat
 cap:Nat
 deriving Inhabited
def rM(s:SQ):τ:=[.slice s.ad s.n s.cap]
def Pu{α:Type}(f:Int->α)(k:Int)(v:α):Int->α:=λj=>if j=k then v else f j
def pr{α:Type}(f:Int->α):List α:=[f 0,f 1]
section
variable {P:Program}{env:Env}{L:Η}{ty:TypeId}
structure aaf (P:Program) (f:FuncId):Prop where
 run:∀args w,(callFunc f args).run P w=((Extern.MapsClone.clone args).run P w).andThen λv cO=>.ok (.value v) cO
end
end
section
section fv
variable {P:Program}{N:Nat}{env:Env}{L:Η}{Ξ:F4}{ty:TypeId}
def Ev.makeFunc{fn:Fn}{fs cs:Array Operand}{vs us:τ}(K:fD env fs.toList=some vs)(T:fD env cs.toList=some us):Ev P L env (.makeFunc fn fs cs) ty (.func fn vs.toArray us.toArray) :=
 Ev.mk (λ_ _ ρ w ea _ _ _ _ _=>by
  have e1:fs.map ρ=vs.toArray:=by apply Array.ext';simpa using ea.list fs.toList vs K
  have e2:cs.map ρ=us.toArray:=by apply Array.ext';simpa using ea.list cs.toList us T
  simp[execOp,Instr.makeFunc,e1,e2])
def Ef.l7{x:Operand}{f:FuncId}{I:Array Operand}{ats:Array TypeId}{vs first cap:τ}{pre R' : Η}{post:Value->Η->Prop}
  (c:Τ P f (first++vs++cap).toArray pre post) (O:cq env x=some (.func (.func f) first.toArray cap.toArray)) (hv:fD env I.toList=some vs) (hL:F L (pre++R')) :
  Ef P L env (.call { callee:=.value x,args:=I,argTypes:=ats }) ty (λv Γ=>∃L₁,post v L₁/\Γ = L₁++R'):=by
 rintro θ R a w ⟨a2,a4,a3,pos,af,g⟩ next F5 ha s rfl rfl hn
 have B:I.map a.eval=vs.toArray:=by
  apply Array.ext';simpa using ha.list I.toList vs hv
 have M:(execOp a.eval ⟨a2,.call { callee:=.value x,args:=I,argTypes:=ats },a3,pos,af,g⟩).run P w=.ok (.enter f (first++vs++cap).toArray) w:=by
  simp[execOp,resolve,Deferred.ofValue,aJ ha O,invoke,B];have:=c.enters (first++vs++cap).toArray w
  simpa using this
 rw[Oper.wp,M,Oper.upon_enter];refine(c.calls θ (R'++R) w (by rw[<-aH];exact hL θ R w s)).mono ?_;rintro e cO ⟨v,Γ,rfl,hp,s'⟩;exact hn v _ cO ⟨Γ,hp,rfl⟩ (by rw[aH];exact s')
def AJ{l:Nat}{B:Loop}{w:World}(h:w.heap[l]? = some (.loop B)):(getObj l).run P w=.ok (.loop B) w:=by simp[getObj,Sem.run,h]
def iW{l:Nat}{B:Loop}{w:World}(h:w.heap[l]? = some (.loop B)):(Instr.getLoop l).run P w=.ok B w:=by
 unfold Instr.getLoop;rw[Sem.run_bind,AJ h];simp
def kh{l:Nat}{B Rf : Loop}{w:World}(h:w.heap[l]? = some (.loop B)):(setObj l (.loop Rf)).run P w=.ok () { w with heap:=w.heap.setIfInBounds l (.loop Rf) }:=by simp[setObj,Sem.run,h]
def C0(P:Program)(L:Η)(env:Env)(op:Op)(ty:TypeId)(post:Value->Η->Prop):Prop :=
 ∀r θ R a w o next F5,QC env a.eval->Sat θ (L++R) w->o.op=op->o.type=ty->(∀v Γ cO,post v Γ->Sat θ (Γ++R) cO->next (a.put o.dst v) cO)->Oper.wpIn (FW r) 0 P o a w next F5
def GO.T8{B:Array Oper}{cN:List Oper}{Μ:Nat}{op:Op}{pos:String}{af:Array Edge}{post:Value->Η->Prop}(he:C0 P L env op ty post)(hd:Μ<N)
  (h:∀v Γ,post v Γ->GO P N B cN ((Μ,v)::env) Γ Ξ):GO P N B (⟨some Μ,op,ty,pos,af,none⟩::cN) env L Ξ:=by
 intro r θ χ a w hr i;refine wpListIn_plain rfl λK' hK=>?_;obtain⟨ε,ea,hm,s⟩:=i;exact he r θ _ a w _ K' _ ea.Pk s rfl rfl λv Γ cO hp s'=>hK _ _ (h v Γ hp r θ χ _ _ hr ⟨ε,ea.put hd _,by rw[T4];exact hm,s'⟩)
def pw(tmps:Array Value)(ps:Array Tmp)(vs:Array Value):Array Value:=(ps.zip vs).foldl (λt (p,v)=>t.setIfInBounds p v) tmps
structure SS (P:Program) (l:Nat) (args:τ) (L:Η) (post:Value->Η->Prop):Prop where
 run:∀θ R w,Sat θ (L++R) w->∃rec,w.heap[l]? = some (.loop rec)/\args.length=rec.params.size/\∀r,RoundIn (FW r) 0 P l rec.fn (pw rec.tmps rec.params args.toArray) rec.assign rec.body w (λe cO=>∃v Γ,e=.returned v/\post v Γ/\Sat θ (Γ++R) cO)
def C0.yield{x:Operand}{l:Nat}{I:Array Operand}{ats:Array TypeId}{vs:τ}{pre R' : Η}{post:Value->Η->Prop}
  (c:SS P l vs pre post) (O:cq env x=some (.func (.yield l) #[] #[])) (hv:fD env I.toList=some vs) (hL:F L (pre++R')) :
  C0 P L env (.call { callee:=.value x,args:=I,argTypes:=ats }) ty (λv Γ=>∃L₁,post v L₁/\Γ = L₁++R'):=by
 rintro r θ R a w ⟨a3,a6,a5,pos,af,g⟩ next F5 ha s rfl rfl hn
 have M:I.map a.eval=vs.toArray:=by
  apply Array.ext';simpa using ha.list I.toList vs hv
 obtain⟨B,K,T,h3⟩:=c.run θ (R'++R) w (by rw[<-aH];exact hL θ R w s)
 have a2:(execOp a.eval ⟨a3,.call { callee:=.value x,args:=I,argTypes:=ats },a5,pos,af,g⟩).run P w=.ok (.round l B.fn (pw B.tmps B.params vs.toArray) B.assign B.body) w:=by
  have a4:¬(vs.length≠B.params.size):=λh=>h T
  have Y:(Instr.yield l vs.toArray).run P w=.ok (.round l B.fn (pw B.tmps B.params vs.toArray) B.assign B.body) w:=by
   unfold Instr.yield;rw[Sem.run_bind,iW K];simp only[Result.andThen_ok];rw[Ν (by simpa using a4)];simp[pw]
  simp only[execOp,resolve,Deferred.ofValue,aJ ha O,invoke,M];simpa using Y
 refine⟨λ_ _=>trivial,?_⟩;rw[Oper.semAt_eq _ _ _ (by intro c h;cases h),a2,Oper.uponIn_round];refine⟨(λh=>by cases h),(h3 r).mono ?_⟩;rintro e cO ⟨v,Γ,rfl,hp,s'⟩;exact hn v _ cO ⟨Γ,hp,rfl⟩ (by rw[aH];exact s')
def Iter(P:Program)(gf:FuncId)(cap:τ)(B:List (τ))(Lg:Η):Prop :=
 ∀(l:Nat) (J7 Jx:Nat->HP),(∀k (hk:k<B.length),SS P l B[k] [J7 k] (λv Γ=>(v=.bool true/\Γ = [J7 (k+1)])\/(v=.bool false/\Γ = [Jx k]))) ->
  Τ P gf (.func (.yield l) #[] #[]::cap).toArray (J7 0::Lg) (λ_ Γ=>Γ = J7 B.length::Lg\/∃k,Γ = Jx k::Lg)
def T9(env:Env):List (Nat×Value)->Env
 | []=>env
 | p::r=>T9 (p::env) r
theorem Ol.a8{ds B : List Deferred}:∀(l:List (Nat×Value)) {env:Env} {t:Array Value},(∀p∈l,p.1<N)->Ol N env ⟨t,ds⟩->Ol N (T9 env l) ⟨l.foldl (λt p=>t.setIfInBounds p.1 p.2) t,B⟩
 | [],_,_,_,h=>⟨h.size,h.at_⟩
 | (p,v)::l,_,_,hp,h=>Ol.a8 l (λq hq=>hp q (az _ hq)) (h.put (hp (p,v) aA) v)
def uT(Ξ:F4)(env:Env)(Lg:Η)(next:Η):F4:=λe _ Γ=>match e with
 | .normal=>F Γ next
 | .ret=>Ξ .ret env (Γ++Lg)
 | .exit A=>Ξ (.exit A) env (Γ++Lg)
 | _=>False
def KX.round{Ξ:F4}{env B : Env}{Lg next Γ : Η}(h:F Γ next):uT Ξ env Lg next .normal B Γ:=h
theorem Sat.c7{θ:Th}{l:Nat}{B Rf : Loop}{L:Η}{w:World}(s:Sat θ (jC l (.loop B)::L) w):Sat θ (jC l (.loop Rf)::L) { w with heap:=w.heap.setIfInBounds l (.loop Rf) }:=Sat.SP s
def ie(Ξ:F4)(env:Env)(Lg:Η):Code->Η->Prop:=λc Γ=>match c with
 | .ret=>Ξ .ret env (Γ++Lg)
 | .exit A=>Ξ (.exit A) env (Γ++Lg)
 | _=>False
def Ua{Ο fG C:Η}:(Ο++(fG++C)).Perm (fG++(Ο++C)):=by
 rw[<-aH,<-aH];exact List.perm_append_comm.append_right C
def py{l:Nat}{B:Loop}{vs:τ}{G2 I' : Η}{Pa:Env}{Lg:Η}(b0:B.state=.ready)(b2:B.pending=none)(a9:vs.length=B.params.size)(b5:∀p∈B.params,p<N)
  (ht:Ol N env ⟨B.tmps,[]⟩) (h:Α P N B.assign (T9 env (B.params.toList.zip vs)) G2 (F4.seq (λa3 Γ=>Α P N B.body a3 Γ (uT Ξ Pa Lg I')) (λ_ _ _=>False))) :
  SS P l vs [cx (jC l (.loop B)::G2)] (λv Γ=>(v=.bool true/\Γ = [cx (jC l (.loop B)::I')])\/(v=.bool false/\Γ = [hex λx:Code×Η=>cx (ee (ie Ξ Pa Lg x.1 x.2)::jC l (.loop { B with state:=.done,pending:=some x.1 })::x.2)])):=by
 refine⟨λθ R w s=>?_⟩;have s1:Sat θ (jC l (.loop B)::(G2++R)) w:=Sat.QB (Ο:=jC l (.loop B)::G2) s;refine⟨B,s1.Nr,a9,λr=>?_⟩;refine roundIn_of_wpIn trivial ?_;show B.assign.wpIn (FW (some l)) 0 P _ _ w
 have hz:pw B.tmps B.params vs.toArray=(B.params.toList.zip vs).foldl (λt p=>t.setIfInBounds p.1 p.2) B.tmps:=by
  unfold pw;rw[<-Array.foldl_toList];simp
 have b4:At N (T9 env (B.params.toList.zip vs)) G2 θ (jC l (.loop B)::R) ⟨pw B.tmps B.params vs.toArray,[]⟩ w:=by
  refine⟨[],?_,rfl,s1.perm List.perm_middle.symm⟩;rw[hz];exact Ol.a8 (t:=B.tmps) _ (λp hp=>b5 p.1 (by have:=fP hp;simpa using this.1)) ht
 refine wpIn_mono (h (some l) θ (jC l (.loop B)::R) _ w (λl' a7=>by cases a7;exact⟨B,R,List.Perm.refl _⟩) b4) ?_;rintro e a' cO ⟨a3,Γ,⟨ε,ea,hm,s2⟩,hk⟩;cases e with
 | normal =>
  have s3:Sat θ (jC l (.loop B)::(Γ++(E5 ε++R))) cO:=s2.perm (by
   rw[<-aH,<-aH Γ];exact dS)
  have b1:=s3.Nr;have s4:=Sat.c7 (Rf:={ B with state:=.busy }) s3;refine⟨{ cO with heap:=cO.heap.setIfInBounds l (.loop { B with state:=.busy }) },?_,?_⟩
  .unfold Instr.beginRound;rw[Sem.run_bind,iW b1];simp only[Result.andThen_ok];rw[Sem.run_bind,kh b1];simp[b0]
  have a6:At N a3 Γ θ (jC l (.loop { B with state:=.busy })::R) a' { cO with heap:=cO.heap.setIfInBounds l (.loop { B with state:=.busy }) }:=by
   refine⟨ε,ea,hm,s4.perm ?_⟩;rw[<-aH,<-aH Γ];exact List.perm_middle.symm
  refine wpIn_mono (hk (some l) θ (jC l (.loop { B with state:=.busy })::R) a' _ (λl' a7=>by cases a7;exact⟨_,R,List.Perm.refl _⟩) a6) ?_;rintro e2 a2 w2 ⟨b3,L2,⟨M2,b6,b7,s5⟩,a4⟩
  have s6:Sat θ (jC l (.loop { B with state:=.busy })::(L2++(E5 M2++R))) w2:=s5.perm (by
   rw[<-aH,<-aH L2];exact dS)
  have a5:=s6.Nr
  have M:∀{Ο:HP} {w:World},Sat θ (Ο::(L2++(E5 M2++R))) w->Sat θ (Ο::(L2++R)) w:=by
   intro Ο w s;have s' : Sat θ (E5 M2++(Ο::(L2++R))) w:=s.perm ((List.Perm.cons Ο Ua).trans List.perm_middle.symm);exact F.nil (E5 M2) θ _ w s'
  cases e2 with
  | normal =>
   have s7:=Sat.c7 (Rf:=B) s6;refine⟨.bool true,{ w2 with heap:=w2.heap.setIfInBounds l (.loop B) },?_,?_⟩
   .unfold Instr.endRound;rw[Sem.run_bind,iW a5];simp only[Result.andThen_ok];rw[Sem.run_bind]
    have e:({ ({ B with state:=.busy }:Loop) with state:=if(none:Option Code).isNone then .ready else .done,pending:=none }:Loop)=B:=by
     cases B;simp only[] at b0 b2;subst b0 b2;rfl
    rw[e,kh a5];simp
   .refine⟨.bool true,_,rfl,.inl ⟨rfl,rfl⟩,?_⟩;have s8:=M s7;have s9:Sat θ (I'++(jC l (.loop B)::R)) { w2 with heap:=w2.heap.setIfInBounds l (.loop B) }:=a4 θ _ _ (s8.perm List.perm_middle.symm);exact Sat.a8 (Ο:=jC l (.loop B)::I') (s9.perm dS)
  | ret =>
   have s7:=Sat.c7 (Rf:={ B with state:=.done,pending:=some .ret }) s6;refine⟨.bool false,_,?_,⟨.bool false,_,rfl,.inr ⟨rfl,rfl⟩,Sat.d8 (f:=λx:Code×Η=>cx (ee (ie Ξ Pa Lg x.1 x.2)::jC l (.loop { B with state:=.done,pending:=some x.1 })::x.2)) (.ret,L2) (Sat.a8 (Ο:=ee (ie Ξ Pa Lg .ret L2)::jC l (.loop { B with state:=.done,pending:=some .ret })::L2) (Sat.Vb (M s7) a4))⟩⟩;unfold Instr.endRound;rw[Sem.run_bind,iW a5];simp only[Result.andThen_ok];rw[Sem.run_bind];have e:({ ({ B with state:=.busy }:Loop) with state:=if(some Code.ret:Option Code).isNone then .ready else .done,pending:=some .ret }:Loop)={ B with state:=.done,pending:=some .ret }:=rfl;rw[e,kh a5];simp
  | exit A =>
   have s7:=Sat.c7 (Rf:={ B with state:=.done,pending:=some (.exit A) }) s6;refine⟨.bool false,_,?_,⟨.bool false,_,rfl,.inr ⟨rfl,rfl⟩,Sat.d8 (f:=λx:Code×Η=>cx (ee (ie Ξ Pa Lg x.1 x.2)::jC l (.loop { B with state:=.done,pending:=some x.1 })::x.2)) (.exit A,L2) (Sat.a8 (Ο:=ee (ie Ξ Pa Lg (.exit A) L2)::jC l (.loop { B with state:=.done,pending:=some (.exit A) })::L2) (Sat.Vb (M s7) a4))⟩⟩;unfold Instr.endRound;rw[Sem.run_bind,iW a5];simp only[Result.andThen_ok];rw[Sem.run_bind];have e:({ ({ B with state:=.busy }:Loop) with state:=if(some (Code.exit A):Option Code).isNone then .ready else .done,pending:=some (.exit A) }:Loop)={ B with state:=.done,pending:=some (.exit A) }:=rfl;rw[e,kh a5];simp
  | goto t=>exact a4.elim
  | panic c=>exact a4.elim
  | outgrown=>exact a4.elim
 | exit A=>exact hk.elim
 | goto t=>exact hk.elim
 | ret=>exact hk.elim
 | panic c=>exact hk.elim
 | outgrown=>exact hk.elim
def jA{l:Nat}{B:Loop}{w:World}(h:w.heap[l]? = some (.loop B))(hs:B.state≠.busy):(Instr.endLoop l).run P w=.ok B.pending { w with heap:=w.heap.setIfInBounds l (.loop { B with state:=.exhausted }) }:=by
 unfold Instr.endLoop;rw[Sem.run_bind,iW h];simp only[Result.andThen_ok]
 have hb:(B.state == LoopState.busy)=false:=by
  cases hr:B.state<;>first|rfl|exact hD hr hs
 rw[hb];simp only[fS,if_false];rw[Sem.run_bind];simp only[Sem.run_pure];rw[kh h];simp
def jL{fn:FuncId}{tmps:Array Value}{ps:Array Tmp}{assign body:Code}{w:World} :
  (Instr.enterLoop fn tmps ps assign body none).run P w=.ok (w.heap.size+1,[{ target:=.collected w.heap.size,args:=#[] }]) ((w.alloc (.deferred (some []))).alloc (.loop { state:=.ready,pending:=none,fn,tmps,params:=ps,assign,body,defers:=w.heap.size })):=by
 unfold Instr.enterLoop;simp[go_sem]
def jK{fn:FuncId}{tmps:Array Value}{ps:Array Tmp}{assign body:Code}{w:World}{l:Nat}{B:Loop}(h:w.heap[l]? = some (.loop B)) :
  (Instr.enterLoop fn tmps ps assign body (some l)).run P w=.ok (w.heap.size,[]) (w.alloc (.loop { state:=.ready,pending:=none,fn,tmps,params:=ps,assign,body,defers:=B.defers })):=by
 unfold Instr.enterLoop;simp only[];rw[Sem.run_bind,iW h];simp[go_sem]
def Α.rangeFunc{g:Operand}{ps:Array Tmp}{assign body:Code}{gf:FuncId}{cap:τ}{a2:List (τ)}{Lg:Η}(it:Iter P gf cap a2 Lg)(hg:cq env g=some (.func (.func gf) #[] cap.toArray))
  (b4:Enters P gf) (b7:∀p∈ps,p<N) (a9:∀vs∈a2,vs.length=ps.size) (G2:Nat->Η) (U:F L (G2 0++Lg))
  (a4:∀k (hk:k<a2.length),Α P N assign (T9 env (ps.toList.zip a2[k])) (G2 k) (F4.seq (λa7 Γ=>Α P N body a7 Γ (uT Ξ env Lg (G2 (k+1)))) (λ_ _ _=>False)))
  (a5:Ξ .normal env (G2 a2.length++Lg)):Α P N (.rangeFunc g ps assign body) env L Ξ:=by
 intro r θ χ a w hr i;obtain⟨ε,ea,hm,s⟩:=i;have s0:Sat θ (G2 0++Lg++(E5 ε++χ)) w:=U θ _ w s;-- what is Wi same in both cases
 have a6:∀(fn:FuncId) (l H8:Nat) (B:List Nat) (w₁:World),(Instr.enterLoop fn a.tmps ps assign body r).run P w=.ok (l,Qo B) w₁ ->
   Sat θ (jC l (.loop { state:=.ready,pending:=none,fn,tmps:=a.tmps,params:=ps,assign,body,defers:=H8 })::(E5 B++(G2 0++Lg++(E5 ε++χ)))) w₁ ->
   ∃(l:Nat) (B:List Deferred) (w₁:World) (Μ:Deferred) (w₁' : World) (f:FuncId) (args:Array Value) (w₂:World),
   (Instr.enterLoop fn a.tmps ps assign body (FW r).round).run P w=.ok (l,B) w₁ /\
   (resolve a.eval (rangeCall g l) 0).run P w₁=.ok Μ w₁' /\
   (∀f',Target.leads P w₁' Μ.target Μ.args=some f'->(FW r).fn f') /\
   (invoke Μ.target Μ.args).run P w₁' = .ok (.enter f args) w₂ /\
   ((FW r).depth.isSome=true->1<=0) /\
   CallsIn (FW r) (0 - 1) P f args w₂ (rangePost (FW r) 0 P l (QK θ χ N Ξ) { a with defers:=B++a.defers }):=by
  intro fn l H8 B w₁ he s1;obtain⟨M,a3⟩:∃M:Loop,M={ state:=.ready,pending:=none,fn,tmps:=a.tmps,params:=ps,assign,body,defers:=H8 }:=⟨_,rfl⟩;rw[<-a3] at s1;have b2:M.state=.ready:=by rw[a3]
  have b1:M.pending=none:=by rw[a3]
  have Y:∀k (hk:k<a2.length),SS P l a2[k] [cx (jC l (.loop M)::G2 k)] (λv Γ=>(v=.bool true/\Γ = [cx (jC l (.loop M)::G2 (k+1))])\/(v=.bool false/\Γ = [hex λx:Code×Η=>cx (ee (ie Ξ env Lg x.1 x.2)::jC l (.loop { M with state:=.done,pending:=some x.1 })::x.2)])):=by
   intro k hk;refine py b2 b1 (by rw[a3];exact a9 _ (cX _)) (by rw[a3];exact b7) (env:=env) ?_ ?_
   .rw[a3];exact⟨ea.size,ea.at_⟩
   .rw[a3];exact a4 k hk
  have ht:=it l (λk=>cx (jC l (.loop M)::G2 k)) (λ_=>hex λx:Code×Η=>cx (ee (ie Ξ env Lg x.1 x.2)::jC l (.loop { M with state:=.done,pending:=some x.1 })::x.2)) Y;have b5:a.eval g=.func (.func gf) #[] cap.toArray:=aJ ea.Pk hg;refine⟨l,Qo B,w₁,{ target:=.fn (.func gf) cap.toArray,args:=#[.func (.yield l) #[] #[]] },w₁,gf,(.func (.yield l) #[] #[]::cap).toArray,w₁,he,?_,λ_ _=>trivial,?_,(λh=>by cases h),mP ?_⟩
  .simp only[resolve,Deferred.ofValue,b5];simp[Act.eval]
  .have:=b4 (.func (.yield l) #[] #[]::cap).toArray w₁
   simpa [invoke] using this
  have s2:Sat θ (cx (jC l (.loop M)::G2 0)::Lg++(E5 B++(E5 ε++χ))) w₁:=by
   refine Sat.a8 (Ο:=jC l (.loop M)::G2 0) (s1.perm ?_);simp only[au];refine List.Perm.cons _ ?_;rw[aH];refine Ua.trans ?_;refine List.Perm.append_left _ ?_;exact Ua
  refine(ht.calls θ _ w₁ s2).mono ?_;rintro e w₂ ⟨v,Γ,rfl,b3,s3⟩;rcases b3 with rfl|⟨k,rfl⟩
  .have s4:Sat θ (jC l (.loop M)::(G2 a2.length++(Lg++(E5 B++(E5 ε++χ))))) w₂:=Sat.QB (Ο:=jC l (.loop M)::G2 a2.length) s3;have hh:=s4.Nr;refine⟨none,_,(by rw[<-b1];exact jA hh (by rw[b2];simp)),?_⟩;have s5:=(Sat.c7 (Rf:={ M with state:=.exhausted }) s4).tail;refine⟨env,G2 a2.length++Lg,⟨B++ε,⟨ea.size,ea.at_⟩,by simp[Qo,hm],?_⟩,a5⟩;have e:E5 (B++ε)++χ=E5 B++(E5 ε++χ):=by simp[E5]
   rw[e,aH];exact s5
  .obtain⟨⟨c,L₂⟩,s4⟩:=Sat.TI (L:=Lg++(E5 B++(E5 ε++χ))) s3;have s5:Sat θ (ee (ie Ξ env Lg c L₂)::(jC l (.loop { M with state:=.done,pending:=some c })::(L₂++(Lg++(E5 B++(E5 ε++χ)))))) w₂:=Sat.QB (Ο:=ee (ie Ξ env Lg c L₂)::jC l (.loop { M with state:=.done,pending:=some c })::L₂) s4;have hj:=s5.TH;have s6:=s5.tail;have hh:=s6.Nr;have s7:=(Sat.c7 (Rf:={ ({ M with state:=.done,pending:=some c }:Loop) with state:=.exhausted }) s6).tail;refine⟨some c,_,jA hh cj,?_⟩
   have b0:At N env (L₂++Lg) θ χ { a with defers:=Qo B++a.defers } { w₂ with heap:=w₂.heap.setIfInBounds l (.loop { ({ M with state:=.done,pending:=some c }:Loop) with state:=.exhausted }) }:=by
    refine⟨B++ε,⟨ea.size,ea.at_⟩,by simp[Qo,hm],?_⟩;have e:E5 (B++ε)++χ=E5 B++(E5 ε++χ):=by simp[E5]
    rw[e,aH];exact s7
   cases c with
   | ret=>exact wpIn_ret ⟨env,_,b0,hj⟩
   | exit A=>exact wpIn_exit ⟨env,_,b0,hj⟩
   | _=>exact hj.elim
 refine wpIn_rangeFunc λfn _=>?_;cases r with
 | none =>
  have s1:=s0.alloc (o:=.deferred (some []));have s2:=s1.alloc (o:=.loop { state:=.ready,pending:=none,fn,tmps:=a.tmps,params:=ps,assign,body,defers:=w.heap.size });refine a6 fn (w.heap.size+1) w.heap.size [w.heap.size] _ jL ?_;rw[World.size_alloc] at s2;exact s2
 | some l =>
  obtain⟨M,Y',hY⟩:=hr l rfl
  have b6:w.heap[l]? = some (.loop M):=by
   have s1:Sat θ (jC l (.loop M)::(G2 0++Lg++(E5 ε++Y'))) w:=s0.perm (by
    have K:(G2 0++Lg++(E5 ε++χ)).Perm (G2 0++Lg++(E5 ε++(jC l (.loop M)::Y'))):=(hY.append_left _).append_left _;refine K.trans ?_;rw[<-aH,<-aH (G2 0++Lg)];exact dS)
   exact s1.Nr
  exact a6 fn w.heap.size M.defers [] _ (jK b6) s0.alloc
end fv
end
section
section
variable {P:Program}{env:Env}{L:Η}{ty:TypeId}
theorem Ev.bits{op:BinOp}{t yt:TypeId}{x y:Operand}{k:IntKind}{a b:Int}(ho:op=.and\/op=.or\/op=.xor)(O:cq env x=some (.int k a))(Y:cq env y=some (.int k b)):Ev P L env (.binOp op t x y yt) ty (.int k (Go.bits op k a b)) :=
 Ev.mk (λ_ _ _ w ea _ _ _ _ _=>ig (aJ ea O) (aJ ea Y) (by rcases ho with rfl|rfl|rfl<;>simp[go_sem]))
def Ev.v8{t yt:TypeId}{x y:Operand}{a b:Int}(O:cq env x=some (.int .u64 a))(Y:cq env y=some (.int .u64 b))(K:0<=a)(T:a<18446744073709551616)(h3:0<=b)(h4:b<18446744073709551616):Ev P L env (.binOp .xor t x y yt) ty (.int .u64 ((a.toNat ^^^ b.toNat:Nat):Int)):=by
 have:=Ev.bits (P:=P) (L:=L) (ty:=ty) (t:=t) (yt:=yt) (op:=.xor) cj O Y
 rwa [u64_xor a b K T h3 h4] at this
def Ev.y7{t yt:TypeId}{x y:Operand}{a b:Int}(O:cq env x=some (.int .u64 a))(Y:cq env y=some (.int .u64 b))(K:0<=a)(T:a<18446744073709551616)(h3:0<=b)(h4:b<18446744073709551616):Ev P L env (.binOp .or t x y yt) ty (.int .u64 ((a.toNat ||| b.toNat:Nat):Int)):=by
 have:=Ev.bits (P:=P) (L:=L) (ty:=ty) (t:=t) (yt:=yt) (op:=.or) cj O Y
 rwa [u64_or a b K T h3 h4] at this
def Ev.x8{t yt:TypeId}{x y:Operand}{a b:Int}(O:cq env x=some (.int .u64 a))(Y:cq env y=some (.int .u64 b))(K:0<=a)(T:a<18446744073709551616)(h3:0<=b)(h4:b<18446744073709551616):Ev P L env (.binOp .and t x y yt) ty (.int .u64 ((a.toNat &&& b.toNat:Nat):Int)):=by
 have:=Ev.bits (P:=P) (L:=L) (ty:=ty) (t:=t) (yt:=yt) (op:=.and) cj O Y
 rwa [u64_and a b K T h3 h4] at this
def Ev.A6{t yt:TypeId}{x y:Operand}{a b:Int}(O:cq env x=some (.int .u8 a))(Y:cq env y=some (.int .u8 b))(K:0<=a)(T:a<256)(h3:0<=b)(h4:b<256):Ev P L env (.binOp .and t x y yt) ty (.int .u8 ((a.toNat &&& b.toNat:Nat):Int)):=by
 have:=Ev.bits (P:=P) (L:=L) (ty:=ty) (t:=t) (yt:=yt) (op:=.and) cj O Y
 rwa [u8_and a b K T h3 h4] at this
def Ev.YP{t yt:TypeId}{x y:Operand}{a b:Int}(O:cq env x=some (.int .u8 a))(Y:cq env y=some (.int .u8 b))(K:0<=a)(T:a<256)(h3:0<=b)(h4:b<256):Ev P L env (.binOp .or t x y yt) ty (.int .u8 ((a.toNat ||| b.toNat:Nat):Int)):=by
 have:=Ev.bits (P:=P) (L:=L) (ty:=ty) (t:=t) (yt:=yt) (op:=.or) cj O Y
 rwa [u8_or a b K T h3 h4] at this
def Ev.shl{t yt:TypeId}{x y:Operand}{k k' : IntKind}{a b:Int}(O:cq env x=some (.int k a))(Y:cq env y=some (.int k' b))(h0:0<=b):Ev P L env (.binOp .shl t x y yt) ty (.int k (k.wrap (a*2 ^ min b.toNat k.bits))) :=
 Ev.mk (λ_ _ _ w ea _ _ _ _ _=>ig (aJ ea O) (aJ ea Y) (by
  have:¬b<0:=D
  simp[binOp,Op.shift,this]))
def Ev.shr{t yt:TypeId}{x y:Operand}{k k' : IntKind}{a b:Int}(O:cq env x=some (.int k a))(Y:cq env y=some (.int k' b))(h0:0<=b):Ev P L env (.binOp .shr t x y yt) ty (.int k (a.fdiv (2 ^ min b.toNat k.bits))) :=
 Ev.mk (λ_ _ _ w ea _ _ _ _ _=>ig (aJ ea O) (aJ ea Y) (by
  have:¬b<0:=D
  simp[binOp,Op.shift,this]))
def Ev.A3{t yt:TypeId}{x y:Operand}{a b:Int}(O:cq env x=some (.int .u64 a))(Y:cq env y=some (.int .u64 b))(h0:0<=a)(K:a<=18446744073709551615)(hb:0<b):Ev P L env (.binOp .quo t x y yt) ty (.int .u64 (a / b)) :=
 Ev.mk (λ_ _ _ w ea _ _ _ _ _=>ig (aJ ea O) (aJ ea Y) (by
  have B : b≠0:=D;have T:=jd h0 (Int.le_of_lt hb);have h3:=Int.ediv_le_self b h0;simp[binOp,Op.intDiv,B,Int.tdiv_eq_ediv_of_nonneg h0,IntWalk.u64_in _ (D:0<=a / b/\a / b<=18446744073709551615)]))
def Ev.t7{t:TypeId}{x:Operand}{s:ByteArray}[ht:UF P t](O:cq env x=some (.string s)):Ev P L env (.call { callee:=.builtin .len,args:=#[x],argTypes:=#[t] }) ty (J (s.size:Int)) :=
 Ev.mk (λ_ _ _ w ea _ _ _ _ _=>by
  have h:=run_len_string (P:=P) w t ty s ht.under;simp[execOp,resolve,invoke,aJ ea O,builtin,h,goInt])
def gt(s:ByteArray):List Int:=s.data.toList.map λb=>(b.toNat:Int)
def uq(s:ByteArray):(gt s).length=s.size:=by simp[gt]
def Ef.m5{t:TypeId}{x y:Operand}{η bb:Nat}{z0:Value}{α:Type}(Ε:α->τ){n:Int}[ht:M7 P t η 1 bb [z0]](O:cq env x=some (J 0))(Y:cq env y=some (J n))(h0:0<=n)(K:n*bb<=281474976710656)(T:n<=1000000000) :
  Ef P L env (.makeSlice t x y) ty (λv Γ=>∃b,v=.slice (some ⟨b,0,none⟩) 0 n.toNat/\Γ = Ω Ε 1 η (some ⟨b,0,none⟩) n.toNat []::L) :=
 Ef.val (λθ R a w ea s B pos af g=>⟨.slice (some ⟨w.heap.size,0,none⟩) 0 n.toNat,w.alloc (.cells (List.replicate n.toNat z0).toArray η),_,by
  obtain⟨ii,zz,i1,i2,i3,i4,i5⟩:=ht.Β
  have hz:zz.cells=#[z0]:=by
   have:=i3
   apply Array.ext';simpa using this
  have hm:madeCells zz.cells (n.toNat*ii.size)=(List.replicate n.toNat z0).toArray:=by
   rw[hz,i4,ga];exact nQ _ _ _ (λi _=>by simp[Nat.mod_one])
  have hk:=run_make (P:=P) w t η ii zz ht.under i1 i2 .i64 .i64 0 n D h0 (by rw[i5,Int.mul_comm];omega) D;rw[hm] at hk
  simp[execOp,aJ ea O,aJ ea Y,hk],⟨_,rfl,rfl⟩,by
   have s1:=s.alloc (o:=.cells (List.replicate n.toNat z0).toArray η);exact Sat.RO (Ε:=Ε) (sz:=1) (cap:=n.toNat) (I:=[]) (L:=L++R) s1 cj cj (by simp only[maxLen];omega) cj cj⟩)
end
end
section
section gf
variable {P:Program}{N:Nat}{ops:Array Oper}{done:List Nat}{n:Nat}{E8:List PE}{env:Env}{L:Η}{Ξ:F4}
def GF(P:Program)(N:Nat)(B:Array Oper)(done:List Nat)(n:Nat)(M:List PE)(env:Env)(L:Η)(Ξ:F4):Prop :=
 RP Ξ->Region.noSelect B=true->Oa .any B (dV B.size done) ->
 ∀θ χ a w S,At N env L θ χ a w->mh P M S->(∀p∈S,p.2 w) ->
  PZ P .any B (QK θ χ N Ξ) (Rt B) n (dV B.size done) S a w
def GF.wk(wk:List K4)(hp:jt ops done wk=true)(hn:wk.length=n)(h:GP P N ops done wk E8 env L Ξ):GF P N ops done n E8 env L Ξ :=
 λhK hs B θ χ a w S i M a2=>hn▸h hK hp hs B θ χ a w S i M a2
def Α.f5{A:Nat}{l:List Oper}[hK:RP Ξ](hm:P.follows .mixedOrders=true)(hp:(Region.noSelect l.toArray && Tf l.toArray)=true)(h:GF P N l.toArray [] l.toArray.size [] env L Ξ):Α P N (.region A l.toArray true) env L Ξ:=by
 intro r θ χ a w hr i;simp only[iY] at hp;obtain⟨h3,h4⟩:=hp;refine wpIn_region_any hm (pg h4 (by rintro⟨a',cO,env,L,_,h⟩;exact hK.out env L h) _ _ _ _ (PZ.a8 (dep:=Rt l.toArray) _ _ [] _ _ ?_));obtain⟨ε,ea,B,s⟩:=i;exact h hK h3 (Oa.a8 _) θ χ a { w with drawn:=w.drawn+1 } [] ⟨ε,ea,B,s.drew⟩ (by intro p hp;cases hp) cj
theorem GF.c7{i Μ:Nat}{op:Op}{ty:TypeId}{pos:String}{af:Array Edge}{g:Option (Nat×Bool)}{v:Value}{B : List PE}(hi:ops[i]? = some ⟨some Μ,op,ty,pos,af,g⟩)(hd:Μ<N)
  (hr:((Region.ready .any ops (dV ops.size done)).contains i && Region.free .any ops (dV ops.size done) i)=true)
  (Y:∀θ R a w,Ol N env a->Sat θ (L++R) w->∃Si,YieldsIf P ops Si ⟨some Μ,op,ty,pos,af,g⟩ v a/\Si w/\∀S,mh P E8 S->mh P B ((i,Si)::S))
  (h:GF P N ops (i::done) n B ((Μ,v)::env) L Ξ):GF P N ops done (n+1) E8 env L Ξ:=by
 intro hK hs a2 θ χ a w S i0 a6 a3;simp only[iY,List.contains_iff_mem] at hr;obtain⟨K,T⟩:=hr;obtain⟨ε,ea,a5,s⟩:=i0;obtain⟨Si,a7,a4,a9⟩:=Y θ _ a w ea s
 have M:∀p∈(i,Si)::S,p.2 w:=λp hp=>by
  rcases Nj hp with rfl|hp
  .exact a4
  .exact a3 p hp
 refine PZ.first hi (Region.noSelect_spec hs) (λc a w q=>(Av hK c _ w q).elim) (λj hj=>tD _ j i hj) _ _ S a w a2 (Region.free_spec hi T) K a7 a4 a3 ?_;exact h hK hs (a2.set K) θ χ (a.put (some Μ) v) w _ ⟨ε,ea.put hd v,by rw[T4];exact a5,s⟩ (a9 S a6) M
def GF.M8{i Μ:Nat}{op:Op}{ty:TypeId}{pos:String}{af:Array Edge}{v:Value}(hi:ops[i]? = some ⟨some Μ,op,ty,pos,af,none⟩)
  (hr:((Region.ready .any ops (dV ops.size done)).contains i && Region.free .any ops (dV ops.size done) i)=true) (he:Ev P [] env op ty v) (hd:Μ<N) (h:GF P N ops (i::done) n E8 ((Μ,v)::env) L Ξ):GF P N ops done (n+1) E8 env L Ξ:=by
 refine GF.c7 hi hd hr (λθ R a w ea s=>⟨λ_=>True,.inl ⟨rfl,?_⟩,trivial,λS hS p hp=>?_⟩) h
 .intro cO _;exact he ⟨cO.tape,cO.os,cO.output,0⟩ [] a.eval cO _ ea.Pk ⟨⟨rfl,rfl,rfl,aC _⟩,Hp.emp,Hp.emp,Hp.c7 _,Hp.a8 _,Hp.a8 _,trivial⟩ rfl rfl
 .rcases Nj hp with rfl|hp
  .exact .inl λ_=>trivial
  .exact hS p hp
def GF.Ob{i Μ:Nat}{op:Op}{ty:TypeId}{pos:String}{af:Array Edge}{v:Value}(hi:ops[i]? = some ⟨some Μ,op,ty,pos,af,none⟩)
  (hr:((Region.ready .any ops (dV ops.size done)).contains i && Region.free .any ops (dV ops.size done) i)=true) (he:Ev P L env op ty v) (hd:Μ<N) (h:GF P N ops (i::done) n (⟨i,op,ty,env,v⟩::E8) ((Μ,v)::env) L Ξ):GF P N ops done (n+1) E8 env L Ξ:=by
 refine GF.c7 hi hd hr (λθ R a w ea s=>⟨λcO=>(execOp a.eval ⟨some Μ,op,ty,pos,af,none⟩).run P cO = .ok (.value v) cO,.inl ⟨rfl,λcO h=>h⟩,he θ R a.eval w _ ea.Pk s rfl rfl,λS hS p hp=>?_⟩) h;rcases Nj hp with rfl|hp
 .exact .inr ⟨_,aA,rfl,a.eval,_,ea.Pk,rfl,rfl,λw h=>h⟩
 .rcases hS p hp with h|⟨pe,K,T⟩
  .exact .inl h
  .exact .inr ⟨pe,az _ K,T⟩
def GE(P:Program)(N:Nat)(B:Array Oper)(done:List Nat)(j n:Nat)(M:List PE)(env:Env)(L:Η)(Ξ:F4):Prop :=
 RP Ξ->Region.noSelect B=true->Oa .any B (dV B.size done)->j∈Region.ready .any B (dV B.size done) ->
 ∀θ χ a w S,At N env L θ χ a w->mh P M S->(∀p∈S,p.2 w) ->
  wpOp P B (QK θ χ N Ξ) j (λa' cO=>(∀p∈kp (Rt B) j S,p.2 cO)/\PZ P .any B (QK θ χ N Ξ) (Rt B) n ((dV B.size done).setIfInBounds j true) (kp (Rt B) j S) a' cO) a w
theorem GF.a8(i j:Nat)(hr:(Region.ready .any ops (dV ops.size done) == [i,j])=true)(K:GE P N ops done i n E8 env L Ξ)(T:GE P N ops done j n E8 env L Ξ):GF P N ops done (n+1) E8 env L Ξ:=by
 intro hK hs a2 θ χ a w S i0 a3 a4;have M:=eq_of_beq hr;refine⟨λh0=>(by rw[h0] at M;cases M),λk hk=>?_⟩;have B:=hk;rw[M] at B;rcases Nj B with rfl|B
 .exact K hK hs a2 hk θ χ a w S i0 a3 a4
 .obtain rfl:=F6 B;exact T hK hs a2 hk θ χ a w S i0 a3 a4
def GE.ef{j Μ:Nat}{op:Op}{ty:TypeId}{pos:String}{af:Array Edge}{post:Value->Η->Prop}(hi:ops[j]? = some ⟨some Μ,op,ty,pos,af,none⟩)(he:Ef P L env op ty post)(hd:Μ<N)
  (h:∀v Γ,post v Γ->(∀pe∈E8,Ev P Γ pe.env pe.op pe.ty pe.v)/\GF P N ops (j::done) n E8 ((Μ,v)::env) Γ Ξ):GE P N ops done j n E8 env L Ξ:=by
 intro hK hs a2 a3 θ χ a w S i0 a6 a9;obtain⟨ε,ea,a4,s⟩:=i0;unfold wpOp;have hw:Region.wanted ⟨some Μ,op,ty,pos,af,none⟩ (yielded ops a.tmps)=true:=rfl;simp only[hi,hw,if_true];refine .inl (he θ _ a w _ _ _ ea.Pk s rfl rfl λv Γ cO B s'=>?_);obtain⟨k1,k3⟩:=h v Γ B
 have M:∀p∈kp (Rt ops) j S,p.2 cO/\((∀w,p.2 w)\/∃pe∈E8,pe.idx=p.1/\∃ρ o,QC pe.env ρ/\o.op=pe.op/\o.type=pe.ty/\∀w,(execOp ρ o).run P w=.ok (.value pe.v) w->p.2 w):=by
  intro p hp;obtain⟨a5,a7⟩:=List.mem_filter.1 hp;rcases a6 p a5 with h|⟨pe,K,T,ρ,o,h4,h5,h6,h7⟩
  .exact⟨h cO,.inl h⟩
  .exact⟨h7 cO (k1 pe K θ _ ρ cO o h4 s' h5 h6),.inr ⟨pe,K,T,ρ,o,h4,h5,h6,h7⟩⟩
 exact⟨λp hp=>(M p hp).1,k3 hK hs (a2.set a3) θ χ _ cO _ ⟨ε,ea.put hd v,by rw[T4];exact a4,s'⟩ (λp hp=>(M p hp).2) (λp hp=>(M p hp).1)⟩
end gf
end
section
section closed
variable {P:Program}{N:Nat}{env:Env}{L:Η}{Ξ:F4}
def GR(P:Program)(N:Nat)(c:Code):Nat->Env->Η->F4->Prop
 | 0,_,_,_=>False
 | m+1,env,L,Ξ=>Α P N c env L (Ξ.seq λB Γ=>GR P N c m B Γ Ξ)
def GR.step{c:Code}{m:Nat}(h:Α P N c env L (Ξ.seq λB Γ=>GR P N c m B Γ Ξ)):GR P N c (m+1) env L Ξ:=h
def Α.d9{c:Code}(m:Nat)(h:GR P N c m env L Ξ):Α P N (.loop c) env L Ξ:=by
 intro r θ χ a w hr i;refine wpIn_loop_rounds m ?_;induction m generalizing env L a w with
 | zero=>exact h.elim
 | succ m ih =>
  rw[roundsIn_succ];refine wpIn_mono (h r θ χ a w hr i) ?_;rintro ex a' cO ⟨B,Γ,i',hk⟩;cases ex with
  | normal=>exact ih hk a' cO i'
  | exit A=>exact⟨B,Γ,i',hk⟩
  | goto l=>exact⟨B,Γ,i',hk⟩
  | ret=>exact⟨B,Γ,i',hk⟩
  | panic ch=>exact⟨B,Γ,i',hk⟩
  | outgrown=>exact⟨B,Γ,i',hk⟩
class YQ (P:Program) (f:FuncId) (N:outParam Nat) (c:outParam Code) (rs:outParam (List ResultVar)):Prop where
 enters:Enters P f
 fn:∃fn:Func,P.funcs[f]? = some fn/\fn.body=some c/\fn.results=rs.toArray/\fn.ntmps=N
def Τ.inPlace{f:FuncId}{N:Nat}{c:Code}{rs:List ResultVar}{args:τ}{post:Value->Η->Prop}[h:YQ P f N c rs](hN:args.length<=N)(hg:Α P N c (Pa args 0) L (Ends P N rs post)):Τ P f args.toArray L post:=by
 obtain⟨fn,K,T,h3,h4⟩:=h.fn;exact Τ.body N h.enters K T h3 h4 hN hg
