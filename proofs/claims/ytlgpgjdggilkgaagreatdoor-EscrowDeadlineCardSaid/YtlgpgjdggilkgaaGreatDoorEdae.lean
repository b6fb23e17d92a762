/- Lemmas. -/
import Derived.Test.YtlgpgjdggilkgaaGreatDoorEdad
import Derived.ProofKit
import Derived.Carry
import Derived.ChangeSlices
import Derived.ChangeSame
import Derived.OpenShut
import Derived.Laws.Externs
import Derived.MapKept
import Derived.Laws.BitsAllLaws
import Derived.Laws.DeepNot64
import Derived.Laws.IdiomStrings
import Derived.LoopNIn
set_option linter.all false
namespace Go.V
section
open Go.ChangeShapes Go.WideShapes Go.ChangeAt Go.RowKit
def xy(w:World):HP:=λι _=>Hp.sub (ie w) ι
def MS.snoc{L:Ι}{ι h:Hp}{p:HP}(s:MS L ι h)(hp:p ι Hp.emp):MS (L++[p]) ι h:=by
 induction L generalizing h with
 | nil=>exact⟨ι,Hp.emp,h,Hp.sub.refl _,Hp.c7 _,Hp.a8 _,Hp.sub.refl _,hp,trivial⟩
 | cons q L ih =>
  obtain⟨G6,E4,D5,a,b,c,Ξ,e,f⟩:=s;exact⟨G6,E4,D5,a,b,c,Ξ,e,ih f⟩
def Υ.law{P:Program}{f:FuncId}{args:Array Value}{L:Ι}{v:Value}{post:Ι->Prop}(h:Υ P f args L (λu Ε=>u=v/\post Ε))(w:World)(hs:MS L (ie w) Hp.emp) :
  Calls P f args w λe dH=>e=.returned v/\Below w.heap.size w dH:=by
 have s0:Sat ⟨w.tape,w.os,w.output,w.drawn⟩ (L++[xy w]) w:=⟨⟨rfl,rfl,rfl,ax _⟩,ie w,Hp.emp,λ_ _ _=>rfl,Hp.sub.refl _,Hp.a8 _,hs.snoc (Hp.sub.refl _)⟩;refine(h.calls _ _ w s0).mono ?_;rintro e dH ⟨u,Ε,rfl,⟨rfl,_⟩,s1⟩;refine⟨rfl,?_⟩;have s2:Sat ⟨w.tape,w.os,w.output,w.drawn⟩ (xy w::Ε) dH:=s1.perm (List.perm_append_singleton _ _);obtain⟨ok,ι,h,a,b1,c,G6,E4,D5,d1,d2,d3,d4,d5,d6⟩:=s2;have hk:∀k o,w.heap[k]? = some o->dH.heap[k]? = some o:=λk o M=>b1 k o (d1 k o (d5 k o M));refine⟨ok.os,ok.tape,ok.output,?_,λk A=>?_⟩
 .rcases Nat.lt_or_ge dH.heap.size w.heap.size with a2|J
  .have I:=hk dH.heap.size _ (Array.getElem?_eq_getElem a2);rw[Array.getElem?_eq_none (ax _)] at I;cases I
  .exact J
 .rw[Array.getElem?_eq_getElem A];exact hk k _ (Array.getElem?_eq_getElem A)
def DE{H:Type}{Η:TypeId×Value->H}{P:Program}{f:Func}{s:ChangeSpec}{apart fresh J:Bool}{W W' : World}{args:Array Value}{v:Value}{ds gs:List (DataW H)}{A pa pv:List MemPlace}
  (hW:DataW.Whole Η P f.params.toList s.vars apart W args.toList ds gs A)
  (a4:∀(b:Nat) (sp:Nat->Bool) (hd:Bool),DataW.TrodAll Η P W' b sp hd f.resultTypes.toList (v.resultList f.resultTypes.size) (s.fn H (ds++gs)).results [])
  (a2:DataW.TrodAll Η P W' 0 (λb=>decide (b<W.heap.size)) true f.params.toList args.toList (s.fn H (ds++gs)).args pa)
  (a3:DataW.TrodVars Η P W' (λb=>decide (b<W.heap.size)) s.vars (s.fn H (ds++gs)).vars pv)
  (a5:A=pa++pv) (hb:Below W.heap.size W W') :
  s.post Η P f apart fresh J false W args v W':=by
 refine⟨ds,gs,A,[],pa,pv,hW,a4 _ _ _,a2,a3,World.keptBut_mono (λp hp=>⟨hp,?_⟩) (hb.frame (·∈A)),λh=>by cases h⟩;rw[a5,List.mem_append] at hp;exact Or.inr hp
def zp{w:World}{k:IntKind}{b off len:Nat}{zs:List Int}(hc:∀i,i<zs.length->w.cell? ⟨b,off+i,none⟩=some (.int k (zs.getD i 0)))(T:len<=zs.length):τ (eU k) 1 (some ⟨b,off,none⟩) (zs.take len) (ie w) Hp.emp:=by
 refine⟨λ_ _=>rfl,?_⟩;rcases Nat.eq_zero_or_pos (zs.take len).length with h0|A
 .exact .inl (cc h0)
 right;have hz:0<zs.length:=by simp at A;omega
 have h0:=hc 0 hz;cases hb:w.heap[b]? with
 | none=>simp[World.cell?,hb] at h0
 | some o =>
  cases o with
  | cells cur ζ fz =>
   refine⟨b,off,cur,ζ,fz,rfl,hb,λi v hv=>?_⟩;rw[oa] at hv
   have hi:i<(zs.take len).length:=by
    rcases Nat.lt_or_ge i (zs.take len).length with h|h
    .exact h
    .rw[List.getElem?_eq_none (by simpa using h)] at hv;cases hv
   have I:=hc i (by simp at hi;omega);rw[ej hb] at I;rw[I,<-hv];simp only[aP] at hi;simp[show i<len by omega,List.getD,List.getElem?_eq_getElem (D:i<zs.length)]
  | _=>simp[World.cell?,hb] at h0
def MS.push{L:Ι}{ι:Hp}{p:HP}(hp:p ι Hp.emp)(s:MS L ι Hp.emp):MS (p::L) ι Hp.emp:=⟨ι,Hp.emp,Hp.emp,Hp.sub.refl _,Hp.c7 _,Hp.a8 _,Hp.sub.refl _,hp,s⟩
abbrev qp(W:World)(b:Nat):Option Obj:=W.heap[b]?
def Cy{H:Type}{Η:TypeId×Value->H}{P:Program}{W:World}{t e:TypeId}{k:IntKind}{ad:OA}{len cap:Nat}{Ξ:DataW H}{p:List MemPlace}(ht:P.underlying t=some (.slice e))(he:P.underlying e=some (.int k))(hc:P.cellsOf e=1)
  (h:DataW.Trod Η P W 0 (λ_=>true) true t (.slice ad len cap) Ξ p):∃G:List Int,τ (eU k) 1 ad G (ie W) Hp.emp/\len=G.length/\(len<=cap/\cap<=maxLen)/\∀x∈G,(Lit.int k x).wf=true:=by
 obtain⟨fuel,hf⟩:=h;rcases open_ints ht he hc hf with⟨J,M⟩|⟨a,a6,a4,zs,J,_,T,hm,hz,M,A,a5⟩
 .simp[Value.cells] at J;obtain⟨rfl,rfl,rfl⟩:=J;exact⟨[],⟨by simp,.inl rfl⟩,rfl,⟨by simp,by simp⟩,by simp⟩
 .simp[Value.cells] at J;obtain⟨rfl,rfl,rfl⟩:=J;simp only[if_true] at hz;refine⟨zs.take len,?_,by simp[aP];omega,⟨T,hm⟩,λx M=>a5 x (cI M)⟩;rcases Nat.eq_zero_or_pos zs.length with h0|a3
  .have:zs=[]:=cc h0;subst this;exact⟨by simp,.inl cg⟩
  .have I:=A 0 a3;obtain⟨b,off,a2⟩:=a
   have hs:a2=none:=by
    rw[qk] at I;unfold World.cell? at I;cases hb:qp W b with
    | none=>simp[qp] at hb;simp[hb] at I
    | some o =>
     simp only[qp] at hb;simp only[hb] at I;cases o with
     | cells c ζ fz=>cases a2 with
      | none=>rfl
      | some x=>simp at I
     | _=>simp at I
   subst hs;exact zp (λi hi=>by rw[<-iR];exact A i hi) D
def tQ{a:Int}(h:(Lit.int .i64 a).wf=true) : -9223372036854775808<=a/\a<=9223372036854775807:=by
 simp[Lit.wf,IntKind.min,IntKind.max,IntKind.signed,IntKind.bits] at h;omega
end
section
structure Sn where
 ad:OA
 n:Nat
 cap:Nat
 deriving Inhabited
def rN(s:Sn):χ:=[.slice s.ad s.n s.cap]
def Pr{α:Type}(f:Int->α)(k:Int)(v:α):Int->α:=λj=>if j=k then v else f j
def pr{α:Type}(f:Int->α):List α:=[f 0,f 1]
section
variable {P:Program}{env:Env}{L:Ι}{ty:TypeId}
structure Z3 (P:Program) (f:FuncId):Prop where
 run:∀args w,(callFunc f args).run P w=((Extern.MapsClone.clone args).run P w).andThen λv dH=>.ok (.value v) dH
end
end
section
section fv
variable {P:Program}{N:Nat}{env:Env}{L:Ι}{Ρ:F8}{ty:TypeId}
def Z.makeFunc{fn:Fn}{fs cs:Array Operand}{vs us:χ}(I:fG env fs.toList=some vs)(Q:fG env cs.toList=some us):Z P L env (.makeFunc fn fs cs) ty (.func fn vs.toArray us.toArray) :=
 Z.mk (λ_ _ ρ w ea _ _ _ _ _=>by
  have e1:fs.map ρ=vs.toArray:=by apply Array.ext';simpa using ea.list fs.toList vs I
  have e2:cs.map ρ=us.toArray:=by apply Array.ext';simpa using ea.list cs.toList us Q
  simp[execOp,Instr.makeFunc,e1,e2])
def Ef.l8{x:Operand}{f:FuncId}{G:Array Operand}{ats:Array TypeId}{vs first cap:χ}{pre R' : Ι}{post:Value->Ι->Prop}
  (c:Υ P f (first++vs++cap).toArray pre post) (M:bG env x=some (.func (.func f) first.toArray cap.toArray)) (hv:fG env G.toList=some vs) (hL:E L (pre++R')) :
  Ef P L env (.call { callee:=.value x,args:=G,argTypes:=ats }) ty (λv Ε=>∃L₁,post v L₁/\Ε = L₁++R'):=by
 rintro θ R a w ⟨a2,a4,a3,pos,af,g⟩ next F9 ha s rfl rfl hn
 have A:G.map a.eval=vs.toArray:=by
  apply Array.ext';simpa using ha.list G.toList vs hv
 have J:(execOp a.eval ⟨a2,.call { callee:=.value x,args:=G,argTypes:=ats },a3,pos,af,g⟩).run P w=.ok (.enter f (first++vs++cap).toArray) w:=by
  simp[execOp,resolve,Deferred.ofValue,aI ha M,invoke,A];have:=c.enters (first++vs++cap).toArray w
  simpa using this
 rw[Oper.wp,J,Oper.upon_enter];refine(c.calls θ (R'++R) w (by rw[<-aF];exact hL θ R w s)).mono ?_;rintro e dH ⟨v,Ε,rfl,hp,s'⟩;exact hn v _ dH ⟨Ε,hp,rfl⟩ (by rw[aF];exact s')
def AF{l:Nat}{A:Loop}{w:World}(h:w.heap[l]? = some (.loop A)):(getObj l).run P w=.ok (.loop A) w:=by simp[getObj,Sem.run,h]
def iW{l:Nat}{A:Loop}{w:World}(h:w.heap[l]? = some (.loop A)):(Instr.getLoop l).run P w=.ok A w:=by
 unfold Instr.getLoop;rw[Sem.run_bind,AF h];simp
def ke{l:Nat}{A QN : Loop}{w:World}(h:w.heap[l]? = some (.loop A)):(setObj l (.loop QN)).run P w=.ok () { w with heap:=w.heap.setIfInBounds l (.loop QN) }:=by simp[setObj,Sem.run,h]
def C0(P:Program)(L:Ι)(env:Env)(op:Op)(ty:TypeId)(post:Value->Ι->Prop):Prop :=
 ∀Δ θ R a w o next F9,Qe env a.eval->Sat θ (L++R) w->o.op=op->o.type=ty->(∀v Ε dH,post v Ε->Sat θ (Ε++R) dH->next (a.put o.dst v) dH)->Oper.wpIn (FW Δ) 0 P o a w next F9
def Y.TG{A:Array Oper}{cR:List Oper}{Ξ:Nat}{op:Op}{pos:String}{af:Array Edge}{post:Value->Ι->Prop}(he:C0 P L env op ty post)(hd:Ξ<N)
  (h:∀v Ε,post v Ε->Y P N A cR ((Ξ,v)::env) Ε Ρ):Y P N A (⟨some Ξ,op,ty,pos,af,none⟩::cR) env L Ρ:=by
 intro Δ θ aa a w hr i;refine wpListIn_plain rfl λK' hK=>?_;obtain⟨ο,ea,hm,s⟩:=i;exact he Δ θ _ a w _ K' _ ea.O4 s rfl rfl λv Ε dH hp s'=>hK _ _ (h v Ε hp Δ θ aa _ _ hr ⟨ο,ea.put hd _,by rw[TC];exact hm,s'⟩)
def pk(tmps:Array Value)(ps:Array Tmp)(vs:Array Value):Array Value:=(ps.zip vs).foldl (λt (p,v)=>t.setIfInBounds p v) tmps
structure Sp (P:Program) (l:Nat) (args:χ) (L:Ι) (post:Value->Ι->Prop):Prop where
 run:∀θ R w,Sat θ (L++R) w->∃rec,w.heap[l]? = some (.loop rec)/\args.length=rec.params.size/\∀Δ,RoundIn (FW Δ) 0 P l rec.fn (pk rec.tmps rec.params args.toArray) rec.assign rec.body w (λe dH=>∃v Ε,e=.returned v/\post v Ε/\Sat θ (Ε++R) dH)
def C0.yield{x:Operand}{l:Nat}{G:Array Operand}{ats:Array TypeId}{vs:χ}{pre R' : Ι}{post:Value->Ι->Prop}
  (c:Sp P l vs pre post) (M:bG env x=some (.func (.yield l) #[] #[])) (hv:fG env G.toList=some vs) (hL:E L (pre++R')) :
  C0 P L env (.call { callee:=.value x,args:=G,argTypes:=ats }) ty (λv Ε=>∃L₁,post v L₁/\Ε = L₁++R'):=by
 rintro Δ θ R a w ⟨a3,a6,a5,pos,af,g⟩ next F9 ha s rfl rfl hn
 have J:G.map a.eval=vs.toArray:=by
  apply Array.ext';simpa using ha.list G.toList vs hv
 obtain⟨A,I,Q,h3⟩:=c.run θ (R'++R) w (by rw[<-aF];exact hL θ R w s)
 have a2:(execOp a.eval ⟨a3,.call { callee:=.value x,args:=G,argTypes:=ats },a5,pos,af,g⟩).run P w=.ok (.round l A.fn (pk A.tmps A.params vs.toArray) A.assign A.body) w:=by
  have a4:¬(vs.length≠A.params.size):=λh=>h Q
  have U:(Instr.yield l vs.toArray).run P w=.ok (.round l A.fn (pk A.tmps A.params vs.toArray) A.assign A.body) w:=by
   unfold Instr.yield;rw[Sem.run_bind,iW I];simp only[Result.andThen_ok];rw[Ο (by simpa using a4)];simp[pk]
  simp only[execOp,resolve,Deferred.ofValue,aI ha M,invoke,J];simpa using U
 refine⟨λ_ _=>trivial,?_⟩;rw[Oper.semAt_eq _ _ _ (by intro c h;cases h),a2,Oper.uponIn_round];refine⟨(λh=>by cases h),(h3 Δ).mono ?_⟩;rintro e dH ⟨v,Ε,rfl,hp,s'⟩;exact hn v _ dH ⟨Ε,hp,rfl⟩ (by rw[aF];exact s')
def Iter(P:Program)(gf:FuncId)(cap:χ)(A:List (χ))(Lg:Ι):Prop :=
 ∀(l:Nat) (J8 Jx:Nat->HP),(∀k (hk:k<A.length),Sp P l A[k] [J8 k] (λv Ε=>(v=.bool true/\Ε = [J8 (k+1)])\/(v=.bool false/\Ε = [Jx k]))) ->
  Υ P gf (.func (.yield l) #[] #[]::cap).toArray (J8 0::Lg) (λ_ Ε=>Ε = J8 A.length::Lg\/∃k,Ε = Jx k::Lg)
def TH(env:Env):List (Nat×Value)->Env
 | []=>env
 | p::Δ=>TH (p::env) Δ
theorem NY.a8{ds A : List Deferred}:∀(l:List (Nat×Value)) {env:Env} {t:Array Value},(∀p∈l,p.1<N)->NY N env ⟨t,ds⟩->NY N (TH env l) ⟨l.foldl (λt p=>t.setIfInBounds p.1 p.2) t,A⟩
 | [],_,_,_,h=>⟨h.size,h.at_⟩
 | (p,v)::l,_,_,hp,h=>NY.a8 l (λq hq=>hp q (az _ hq)) (h.put (hp (p,v) au) v)
def uX(Ρ:F8)(env:Env)(Lg:Ι)(next:Ι):F8:=λe _ Ε=>match e with
 | .normal=>E Ε next
 | .ret=>Ρ .ret env (Ε++Lg)
 | .exit r=>Ρ (.exit r) env (Ε++Lg)
 | _=>False
def KX.round{Ρ:F8}{env A : Env}{Lg next Ε : Ι}(h:E Ε next):uX Ρ env Lg next .normal A Ε:=h
theorem Sat.c7{θ:Th}{l:Nat}{A QN : Loop}{L:Ι}{w:World}(s:Sat θ (sh l (.loop A)::L) w):Sat θ (sh l (.loop QN)::L) { w with heap:=w.heap.setIfInBounds l (.loop QN) }:=Sat.Sm s
def ij(Ρ:F8)(env:Env)(Lg:Ι):Code->Ι->Prop:=λc Ε=>match c with
 | .ret=>Ρ .ret env (Ε++Lg)
 | .exit r=>Ρ (.exit r) env (Ε++Lg)
 | _=>False
def TI{Φ hx C:Ι}:(Φ++(hx++C)).Perm (hx++(Φ++C)):=by
 rw[<-aF,<-aF];exact List.perm_append_comm.append_right C
def pq{l:Nat}{A:Loop}{vs:χ}{G3 I' : Ι}{OP:Env}{Lg:Ι}(b0:A.state=.ready)(b2:A.pending=none)(a9:vs.length=A.params.size)(b5:∀p∈A.params,p<N)
  (ht:NY N env ⟨A.tmps,[]⟩) (h:Β P N A.assign (TH env (A.params.toList.zip vs)) G3 (F8.seq (λa3 Ε=>Β P N A.body a3 Ε (uX Ρ OP Lg I')) (λ_ _ _=>False))) :
  Sp P l vs [cw (sh l (.loop A)::G3)] (λv Ε=>(v=.bool true/\Ε = [cw (sh l (.loop A)::I')])\/(v=.bool false/\Ε = [hex λx:Code×Ι=>cw (ee (ij Ρ OP Lg x.1 x.2)::sh l (.loop { A with state:=.done,pending:=some x.1 })::x.2)])):=by
 refine⟨λθ R w s=>?_⟩;have s1:Sat θ (sh l (.loop A)::(G3++R)) w:=Sat.Qd (Φ:=sh l (.loop A)::G3) s;refine⟨A,s1.M8,a9,λΔ=>?_⟩;refine roundIn_of_wpIn trivial ?_;show A.assign.wpIn (FW (some l)) 0 P _ _ w
 have hz:pk A.tmps A.params vs.toArray=(A.params.toList.zip vs).foldl (λt p=>t.setIfInBounds p.1 p.2) A.tmps:=by
  unfold pk;rw[<-Array.foldl_toList];simp
 have b4:At N (TH env (A.params.toList.zip vs)) G3 θ (sh l (.loop A)::R) ⟨pk A.tmps A.params vs.toArray,[]⟩ w:=by
  refine⟨[],?_,rfl,s1.perm List.perm_middle.symm⟩;rw[hz];exact NY.a8 (t:=A.tmps) _ (λp hp=>b5 p.1 (by have:=fR hp;simpa using this.1)) ht
 refine wpIn_mono (h (some l) θ (sh l (.loop A)::R) _ w (λl' a7=>by cases a7;exact⟨A,R,List.Perm.refl _⟩) b4) ?_;rintro e a' dH ⟨a3,Ε,⟨ο,ea,hm,s2⟩,hk⟩;cases e with
 | normal =>
  have s3:Sat θ (sh l (.loop A)::(Ε++(E5 ο++R))) dH:=s2.perm (by
   rw[<-aF,<-aF Ε];exact dN)
  have b1:=s3.M8;have s4:=Sat.c7 (QN:={ A with state:=.busy }) s3;refine⟨{ dH with heap:=dH.heap.setIfInBounds l (.loop { A with state:=.busy }) },?_,?_⟩
  .unfold Instr.beginRound;rw[Sem.run_bind,iW b1];simp only[Result.andThen_ok];rw[Sem.run_bind,ke b1];simp[b0]
  have a6:At N a3 Ε θ (sh l (.loop { A with state:=.busy })::R) a' { dH with heap:=dH.heap.setIfInBounds l (.loop { A with state:=.busy }) }:=by
   refine⟨ο,ea,hm,s4.perm ?_⟩;rw[<-aF,<-aF Ε];exact List.perm_middle.symm
  refine wpIn_mono (hk (some l) θ (sh l (.loop { A with state:=.busy })::R) a' _ (λl' a7=>by cases a7;exact⟨_,R,List.Perm.refl _⟩) a6) ?_;rintro e2 a2 w2 ⟨b3,L2,⟨M2,b6,b7,s5⟩,a4⟩
  have s6:Sat θ (sh l (.loop { A with state:=.busy })::(L2++(E5 M2++R))) w2:=s5.perm (by
   rw[<-aF,<-aF L2];exact dN)
  have a5:=s6.M8
  have J:∀{Φ:HP} {w:World},Sat θ (Φ::(L2++(E5 M2++R))) w->Sat θ (Φ::(L2++R)) w:=by
   intro Φ w s;have s' : Sat θ (E5 M2++(Φ::(L2++R))) w:=s.perm ((List.Perm.cons Φ TI).trans List.perm_middle.symm);exact E.nil (E5 M2) θ _ w s'
  cases e2 with
  | normal =>
   have s7:=Sat.c7 (QN:=A) s6;refine⟨.bool true,{ w2 with heap:=w2.heap.setIfInBounds l (.loop A) },?_,?_⟩
   .unfold Instr.endRound;rw[Sem.run_bind,iW a5];simp only[Result.andThen_ok];rw[Sem.run_bind]
    have e:({ ({ A with state:=.busy }:Loop) with state:=if(none:Option Code).isNone then .ready else .done,pending:=none }:Loop)=A:=by
     cases A;simp only[] at b0 b2;subst b0 b2;rfl
    rw[e,ke a5];simp
   .refine⟨.bool true,_,rfl,.inl ⟨rfl,rfl⟩,?_⟩;have s8:=J s7;have s9:Sat θ (I'++(sh l (.loop A)::R)) { w2 with heap:=w2.heap.setIfInBounds l (.loop A) }:=a4 θ _ _ (s8.perm List.perm_middle.symm);exact Sat.a8 (Φ:=sh l (.loop A)::I') (s9.perm dN)
  | ret =>
   have s7:=Sat.c7 (QN:={ A with state:=.done,pending:=some .ret }) s6;refine⟨.bool false,_,?_,⟨.bool false,_,rfl,.inr ⟨rfl,rfl⟩,Sat.d8 (f:=λx:Code×Ι=>cw (ee (ij Ρ OP Lg x.1 x.2)::sh l (.loop { A with state:=.done,pending:=some x.1 })::x.2)) (.ret,L2) (Sat.a8 (Φ:=ee (ij Ρ OP Lg .ret L2)::sh l (.loop { A with state:=.done,pending:=some .ret })::L2) (Sat.UH (J s7) a4))⟩⟩;unfold Instr.endRound;rw[Sem.run_bind,iW a5];simp only[Result.andThen_ok];rw[Sem.run_bind];have e:({ ({ A with state:=.busy }:Loop) with state:=if(some Code.ret:Option Code).isNone then .ready else .done,pending:=some .ret }:Loop)={ A with state:=.done,pending:=some .ret }:=rfl;rw[e,ke a5];simp
  | exit r =>
   have s7:=Sat.c7 (QN:={ A with state:=.done,pending:=some (.exit r) }) s6;refine⟨.bool false,_,?_,⟨.bool false,_,rfl,.inr ⟨rfl,rfl⟩,Sat.d8 (f:=λx:Code×Ι=>cw (ee (ij Ρ OP Lg x.1 x.2)::sh l (.loop { A with state:=.done,pending:=some x.1 })::x.2)) (.exit r,L2) (Sat.a8 (Φ:=ee (ij Ρ OP Lg (.exit r) L2)::sh l (.loop { A with state:=.done,pending:=some (.exit r) })::L2) (Sat.UH (J s7) a4))⟩⟩;unfold Instr.endRound;rw[Sem.run_bind,iW a5];simp only[Result.andThen_ok];rw[Sem.run_bind];have e:({ ({ A with state:=.busy }:Loop) with state:=if(some (Code.exit r):Option Code).isNone then .ready else .done,pending:=some (.exit r) }:Loop)={ A with state:=.done,pending:=some (.exit r) }:=rfl;rw[e,ke a5];simp
  | goto t=>exact a4.elim
  | panic c=>exact a4.elim
  | outgrown=>exact a4.elim
 | exit r=>exact hk.elim
 | goto t=>exact hk.elim
 | ret=>exact hk.elim
 | panic c=>exact hk.elim
 | outgrown=>exact hk.elim
def jy{l:Nat}{A:Loop}{w:World}(h:w.heap[l]? = some (.loop A))(hs:A.state≠.busy):(Instr.endLoop l).run P w=.ok A.pending { w with heap:=w.heap.setIfInBounds l (.loop { A with state:=.exhausted }) }:=by
 unfold Instr.endLoop;rw[Sem.run_bind,iW h];simp only[Result.andThen_ok]
 have hb:(A.state == LoopState.busy)=false:=by
  cases hr:A.state<;>first|rfl|exact iJ hr hs
 rw[hb];simp only[em,if_false];rw[Sem.run_bind];simp only[Sem.run_pure];rw[ke h];simp
def jJ{fn:FuncId}{tmps:Array Value}{ps:Array Tmp}{assign body:Code}{w:World} :
  (Instr.enterLoop fn tmps ps assign body none).run P w=.ok (w.heap.size+1,[{ target:=.collected w.heap.size,args:=#[] }]) ((w.alloc (.deferred (some []))).alloc (.loop { state:=.ready,pending:=none,fn,tmps,params:=ps,assign,body,defers:=w.heap.size })):=by
 unfold Instr.enterLoop;simp[go_sem]
def jI{fn:FuncId}{tmps:Array Value}{ps:Array Tmp}{assign body:Code}{w:World}{l:Nat}{A:Loop}(h:w.heap[l]? = some (.loop A)) :
  (Instr.enterLoop fn tmps ps assign body (some l)).run P w=.ok (w.heap.size,[]) (w.alloc (.loop { state:=.ready,pending:=none,fn,tmps,params:=ps,assign,body,defers:=A.defers })):=by
 unfold Instr.enterLoop;simp only[];rw[Sem.run_bind,iW h];simp[go_sem]
def Β.rangeFunc{g:Operand}{ps:Array Tmp}{assign body:Code}{gf:FuncId}{cap:χ}{a2:List (χ)}{Lg:Ι}(it:Iter P gf cap a2 Lg)(hg:bG env g=some (.func (.func gf) #[] cap.toArray))
  (b4:Enters P gf) (b7:∀p∈ps,p<N) (a9:∀vs∈a2,vs.length=ps.size) (G3:Nat->Ι) (T:E L (G3 0++Lg))
  (a4:∀k (hk:k<a2.length),Β P N assign (TH env (ps.toList.zip a2[k])) (G3 k) (F8.seq (λa7 Ε=>Β P N body a7 Ε (uX Ρ env Lg (G3 (k+1)))) (λ_ _ _=>False)))
  (a5:Ρ .normal env (G3 a2.length++Lg)):Β P N (.rangeFunc g ps assign body) env L Ρ:=by
 intro Δ θ aa a w hr i;obtain⟨ο,ea,hm,s⟩:=i;have s0:Sat θ (G3 0++Lg++(E5 ο++aa)) w:=T θ _ w s;-- what is VS same in both cases
 have a6:∀(fn:FuncId) (l H7:Nat) (A:List Nat) (w₁:World),(Instr.enterLoop fn a.tmps ps assign body Δ).run P w=.ok (l,PZ A) w₁ ->
   Sat θ (sh l (.loop { state:=.ready,pending:=none,fn,tmps:=a.tmps,params:=ps,assign,body,defers:=H7 })::(E5 A++(G3 0++Lg++(E5 ο++aa)))) w₁ ->
   ∃(l:Nat) (A:List Deferred) (w₁:World) (Ξ:Deferred) (w₁' : World) (f:FuncId) (args:Array Value) (w₂:World),
   (Instr.enterLoop fn a.tmps ps assign body (FW Δ).round).run P w=.ok (l,A) w₁ /\
   (resolve a.eval (rangeCall g l) 0).run P w₁=.ok Ξ w₁' /\
   (∀f',Target.leads P w₁' Ξ.target Ξ.args=some f'->(FW Δ).fn f') /\
   (invoke Ξ.target Ξ.args).run P w₁' = .ok (.enter f args) w₂ /\
   ((FW Δ).depth.isSome=true->1<=0) /\
   CallsIn (FW Δ) (0 - 1) P f args w₂ (rangePost (FW Δ) 0 P l (QK θ aa N Ρ) { a with defers:=A++a.defers }):=by
  intro fn l H7 A w₁ he s1;obtain⟨J,a3⟩:∃J:Loop,J={ state:=.ready,pending:=none,fn,tmps:=a.tmps,params:=ps,assign,body,defers:=H7 }:=⟨_,rfl⟩;rw[<-a3] at s1;have b2:J.state=.ready:=by rw[a3]
  have b1:J.pending=none:=by rw[a3]
  have U:∀k (hk:k<a2.length),Sp P l a2[k] [cw (sh l (.loop J)::G3 k)] (λv Ε=>(v=.bool true/\Ε = [cw (sh l (.loop J)::G3 (k+1))])\/(v=.bool false/\Ε = [hex λx:Code×Ι=>cw (ee (ij Ρ env Lg x.1 x.2)::sh l (.loop { J with state:=.done,pending:=some x.1 })::x.2)])):=by
   intro k hk;refine pq b2 b1 (by rw[a3];exact a9 _ (cY _)) (by rw[a3];exact b7) (env:=env) ?_ ?_
   .rw[a3];exact⟨ea.size,ea.at_⟩
   .rw[a3];exact a4 k hk
  have ht:=it l (λk=>cw (sh l (.loop J)::G3 k)) (λ_=>hex λx:Code×Ι=>cw (ee (ij Ρ env Lg x.1 x.2)::sh l (.loop { J with state:=.done,pending:=some x.1 })::x.2)) U;have b5:a.eval g=.func (.func gf) #[] cap.toArray:=aI ea.O4 hg;refine⟨l,PZ A,w₁,{ target:=.fn (.func gf) cap.toArray,args:=#[.func (.yield l) #[] #[]] },w₁,gf,(.func (.yield l) #[] #[]::cap).toArray,w₁,he,?_,λ_ _=>trivial,?_,(λh=>by cases h),mO ?_⟩
  .simp only[resolve,Deferred.ofValue,b5];simp[Act.eval]
  .have:=b4 (.func (.yield l) #[] #[]::cap).toArray w₁
   simpa [invoke] using this
  have s2:Sat θ (cw (sh l (.loop J)::G3 0)::Lg++(E5 A++(E5 ο++aa))) w₁:=by
   refine Sat.a8 (Φ:=sh l (.loop J)::G3 0) (s1.perm ?_);simp only[aq];refine List.Perm.cons _ ?_;rw[aF];refine TI.trans ?_;refine List.Perm.append_left _ ?_;exact TI
  refine(ht.calls θ _ w₁ s2).mono ?_;rintro e w₂ ⟨v,Ε,rfl,b3,s3⟩;rcases b3 with rfl|⟨k,rfl⟩
  .have s4:Sat θ (sh l (.loop J)::(G3 a2.length++(Lg++(E5 A++(E5 ο++aa))))) w₂:=Sat.Qd (Φ:=sh l (.loop J)::G3 a2.length) s3;have hh:=s4.M8;refine⟨none,_,(by rw[<-b1];exact jy hh (by rw[b2];simp)),?_⟩;have s5:=(Sat.c7 (QN:={ J with state:=.exhausted }) s4).tail;refine⟨env,G3 a2.length++Lg,⟨A++ο,⟨ea.size,ea.at_⟩,by simp[PZ,hm],?_⟩,a5⟩;have e:E5 (A++ο)++aa=E5 A++(E5 ο++aa):=by simp[E5]
   rw[e,aF];exact s5
  .obtain⟨⟨c,L₂⟩,s4⟩:=Sat.Te (L:=Lg++(E5 A++(E5 ο++aa))) s3;have s5:Sat θ (ee (ij Ρ env Lg c L₂)::(sh l (.loop { J with state:=.done,pending:=some c })::(L₂++(Lg++(E5 A++(E5 ο++aa)))))) w₂:=Sat.Qd (Φ:=ee (ij Ρ env Lg c L₂)::sh l (.loop { J with state:=.done,pending:=some c })::L₂) s4;have hj:=s5.Td;have s6:=s5.tail;have hh:=s6.M8;have s7:=(Sat.c7 (QN:={ ({ J with state:=.done,pending:=some c }:Loop) with state:=.exhausted }) s6).tail;refine⟨some c,_,jy hh cg,?_⟩
   have b0:At N env (L₂++Lg) θ aa { a with defers:=PZ A++a.defers } { w₂ with heap:=w₂.heap.setIfInBounds l (.loop { ({ J with state:=.done,pending:=some c }:Loop) with state:=.exhausted }) }:=by
    refine⟨A++ο,⟨ea.size,ea.at_⟩,by simp[PZ,hm],?_⟩;have e:E5 (A++ο)++aa=E5 A++(E5 ο++aa):=by simp[E5]
    rw[e,aF];exact s7
   cases c with
   | ret=>exact wpIn_ret ⟨env,_,b0,hj⟩
   | exit r=>exact wpIn_exit ⟨env,_,b0,hj⟩
   | _=>exact hj.elim
 refine wpIn_rangeFunc λfn _=>?_;cases Δ with
 | none =>
  have s1:=s0.alloc (o:=.deferred (some []));have s2:=s1.alloc (o:=.loop { state:=.ready,pending:=none,fn,tmps:=a.tmps,params:=ps,assign,body,defers:=w.heap.size });refine a6 fn (w.heap.size+1) w.heap.size [w.heap.size] _ jJ ?_;rw[World.size_alloc] at s2;exact s2
 | some l =>
  obtain⟨J,Y',hY⟩:=hr l rfl
  have b6:w.heap[l]? = some (.loop J):=by
   have s1:Sat θ (sh l (.loop J)::(G3 0++Lg++(E5 ο++Y'))) w:=s0.perm (by
    have I:(G3 0++Lg++(E5 ο++aa)).Perm (G3 0++Lg++(E5 ο++(sh l (.loop J)::Y'))):=(hY.append_left _).append_left _;refine I.trans ?_;rw[<-aF,<-aF (G3 0++Lg)];exact dN)
   exact s1.M8
  exact a6 fn w.heap.size J.defers [] _ (jI b6) s0.alloc
end fv
end
section
section
variable {P:Program}{env:Env}{L:Ι}{ty:TypeId}
theorem Z.bits{op:BinOp}{t yt:TypeId}{x y:Operand}{k:IntKind}{a b:Int}(ho:op=.and\/op=.or\/op=.xor)(M:bG env x=some (.int k a))(U:bG env y=some (.int k b)):Z P L env (.binOp op t x y yt) ty (.int k (Go.bits op k a b)) :=
 Z.mk (λ_ _ _ w ea _ _ _ _ _=>ik (aI ea M) (aI ea U) (by rcases ho with rfl|rfl|rfl<;>simp[go_sem]))
def Z.w0{t yt:TypeId}{x y:Operand}{a b:Int}(M:bG env x=some (.int .u64 a))(U:bG env y=some (.int .u64 b))(I:0<=a)(Q:a<18446744073709551616)(h3:0<=b)(h4:b<18446744073709551616):Z P L env (.binOp .xor t x y yt) ty (.int .u64 ((a.toNat ^^^ b.toNat:Nat):Int)):=by
 have:=Z.bits (P:=P) (L:=L) (ty:=ty) (t:=t) (yt:=yt) (op:=.xor) cg M U
 rwa [u64_xor a b I Q h3 h4] at this
def Z.y7{t yt:TypeId}{x y:Operand}{a b:Int}(M:bG env x=some (.int .u64 a))(U:bG env y=some (.int .u64 b))(I:0<=a)(Q:a<18446744073709551616)(h3:0<=b)(h4:b<18446744073709551616):Z P L env (.binOp .or t x y yt) ty (.int .u64 ((a.toNat ||| b.toNat:Nat):Int)):=by
 have:=Z.bits (P:=P) (L:=L) (ty:=ty) (t:=t) (yt:=yt) (op:=.or) cg M U
 rwa [u64_or a b I Q h3 h4] at this
def Z.x8{t yt:TypeId}{x y:Operand}{a b:Int}(M:bG env x=some (.int .u64 a))(U:bG env y=some (.int .u64 b))(I:0<=a)(Q:a<18446744073709551616)(h3:0<=b)(h4:b<18446744073709551616):Z P L env (.binOp .and t x y yt) ty (.int .u64 ((a.toNat &&& b.toNat:Nat):Int)):=by
 have:=Z.bits (P:=P) (L:=L) (ty:=ty) (t:=t) (yt:=yt) (op:=.and) cg M U
 rwa [u64_and a b I Q h3 h4] at this
def Z.A8{t yt:TypeId}{x y:Operand}{a b:Int}(M:bG env x=some (.int .u8 a))(U:bG env y=some (.int .u8 b))(I:0<=a)(Q:a<256)(h3:0<=b)(h4:b<256):Z P L env (.binOp .and t x y yt) ty (.int .u8 ((a.toNat &&& b.toNat:Nat):Int)):=by
 have:=Z.bits (P:=P) (L:=L) (ty:=ty) (t:=t) (yt:=yt) (op:=.and) cg M U
 rwa [u8_and a b I Q h3 h4] at this
def Z.YL{t yt:TypeId}{x y:Operand}{a b:Int}(M:bG env x=some (.int .u8 a))(U:bG env y=some (.int .u8 b))(I:0<=a)(Q:a<256)(h3:0<=b)(h4:b<256):Z P L env (.binOp .or t x y yt) ty (.int .u8 ((a.toNat ||| b.toNat:Nat):Int)):=by
 have:=Z.bits (P:=P) (L:=L) (ty:=ty) (t:=t) (yt:=yt) (op:=.or) cg M U
 rwa [u8_or a b I Q h3 h4] at this
def Z.shl{t yt:TypeId}{x y:Operand}{k k' : IntKind}{a b:Int}(M:bG env x=some (.int k a))(U:bG env y=some (.int k' b))(h0:0<=b):Z P L env (.binOp .shl t x y yt) ty (.int k (k.wrap (a*2 ^ min b.toNat k.bits))) :=
 Z.mk (λ_ _ _ w ea _ _ _ _ _=>ik (aI ea M) (aI ea U) (by
  have:¬b<0:=D
  simp[binOp,Op.shift,this]))
def Z.shr{t yt:TypeId}{x y:Operand}{k k' : IntKind}{a b:Int}(M:bG env x=some (.int k a))(U:bG env y=some (.int k' b))(h0:0<=b):Z P L env (.binOp .shr t x y yt) ty (.int k (a.fdiv (2 ^ min b.toNat k.bits))) :=
 Z.mk (λ_ _ _ w ea _ _ _ _ _=>ik (aI ea M) (aI ea U) (by
  have:¬b<0:=D
  simp[binOp,Op.shift,this]))
def Z.A5{t yt:TypeId}{x y:Operand}{a b:Int}(M:bG env x=some (.int .u64 a))(U:bG env y=some (.int .u64 b))(h0:0<=a)(I:a<=18446744073709551615)(hb:0<b):Z P L env (.binOp .quo t x y yt) ty (.int .u64 (a / b)) :=
 Z.mk (λ_ _ _ w ea _ _ _ _ _=>ik (aI ea M) (aI ea U) (by
  have A : b≠0:=D;have Q:=jc h0 (Int.le_of_lt hb);have h3:=Int.ediv_le_self b h0;simp[binOp,Op.intDiv,A,Int.tdiv_eq_ediv_of_nonneg h0,IntWalk.u64_in _ (D:0<=a / b/\a / b<=18446744073709551615)]))
def Z.t8{t:TypeId}{x:Operand}{s:ByteArray}[ht:Ub P t](M:bG env x=some (.string s)):Z P L env (.call { callee:=.builtin .len,args:=#[x],argTypes:=#[t] }) ty (K (s.size:Int)) :=
 Z.mk (λ_ _ _ w ea _ _ _ _ _=>by
  have h:=run_len_string (P:=P) w t ty s ht.under;simp[execOp,resolve,invoke,aI ea M,builtin,h,goInt])
def gu(s:ByteArray):List Int:=s.data.toList.map λb=>(b.toNat:Int)
def ut(s:ByteArray):(gu s).length=s.size:=by simp[gu]
def Ef.m6{t:TypeId}{x y:Operand}{ζ bb:Nat}{z0:Value}{α:Type}(Η:α->χ){n:Int}[ht:M9 P t ζ 1 bb [z0]](M:bG env x=some (K 0))(U:bG env y=some (K n))(h0:0<=n)(I:n*bb<=281474976710656)(Q:n<=1000000000) :
  Ef P L env (.makeSlice t x y) ty (λv Ε=>∃b,v=.slice (some ⟨b,0,none⟩) 0 n.toNat/\Ε = μ Η 1 ζ (some ⟨b,0,none⟩) n.toNat []::L) :=
 Ef.val (λθ R a w ea s A pos af g=>⟨.slice (some ⟨w.heap.size,0,none⟩) 0 n.toNat,w.alloc (.cells (List.replicate n.toNat z0).toArray ζ),_,by
  obtain⟨ii,zz,i1,i2,i3,i4,i5⟩:=ht.Γ
  have hz:zz.cells=#[z0]:=by
   have:=i3
   apply Array.ext';simpa using this
  have hm:madeCells zz.cells (n.toNat*ii.size)=(List.replicate n.toNat z0).toArray:=by
   rw[hz,i4,gc];exact nJ _ _ _ (λi _=>by simp[Nat.mod_one])
  have hk:=run_make (P:=P) w t ζ ii zz ht.under i1 i2 .i64 .i64 0 n D h0 (by rw[i5,Int.mul_comm];omega) D;rw[hm] at hk
  simp[execOp,aI ea M,aI ea U,hk],⟨_,rfl,rfl⟩,by
   have s1:=s.alloc (o:=.cells (List.replicate n.toNat z0).toArray ζ);exact Sat.Rm (Η:=Η) (sz:=1) (cap:=n.toNat) (G:=[]) (L:=L++R) s1 cg cg (by simp only[maxLen];omega) cg cg⟩)
end
end
section
section gf
variable {P:Program}{N:Nat}{ops:Array Oper}{done:List Nat}{n:Nat}{E8:List PE}{env:Env}{L:Ι}{Ρ:F8}
def GF(P:Program)(N:Nat)(A:Array Oper)(done:List Nat)(n:Nat)(J:List PE)(env:Env)(L:Ι)(Ρ:F8):Prop :=
 Ro Ρ->Region.noSelect A=true->NI .any A (dT A.size done) ->
 ∀θ aa a w S,At N env L θ aa a w->mg P J S->(∀p∈S,p.2 w) ->
  PC P .any A (QK θ aa N Ρ) (Q3 A) n (dT A.size done) S a w
def GF.y5(y5:List K3)(hp:jq ops done y5=true)(hn:y5.length=n)(h:GP P N ops done y5 E8 env L Ρ):GF P N ops done n E8 env L Ρ :=
 λhK hs A θ aa a w S i J a2=>hn▸h hK hp hs A θ aa a w S i J a2
def Β.f7{r:Nat}{l:List Oper}[hK:Ro Ρ](hm:P.follows .mixedOrders=true)(hp:(Region.noSelect l.toArray && SI l.toArray)=true)(h:GF P N l.toArray [] l.toArray.size [] env L Ρ):Β P N (.region r l.toArray true) env L Ρ:=by
 intro Δ θ aa a w hr i;simp only[iY] at hp;obtain⟨h3,h4⟩:=hp;refine wpIn_region_any hm (oW h4 (by rintro⟨a',dH,env,L,_,h⟩;exact hK.out env L h) _ _ _ _ (PC.a8 (dep:=Q3 l.toArray) _ _ [] _ _ ?_));obtain⟨ο,ea,A,s⟩:=i;exact h hK h3 (NI.a8 _) θ aa a { w with drawn:=w.drawn+1 } [] ⟨ο,ea,A,s.drew⟩ (by intro p hp;cases hp) cg
theorem GF.c7{i Ξ:Nat}{op:Op}{ty:TypeId}{pos:String}{af:Array Edge}{g:Option (Nat×Bool)}{v:Value}{A : List PE}(hi:ops[i]? = some ⟨some Ξ,op,ty,pos,af,g⟩)(hd:Ξ<N)
  (hr:((Region.ready .any ops (dT ops.size done)).contains i && Region.free .any ops (dT ops.size done) i)=true)
  (U:∀θ R a w,NY N env a->Sat θ (L++R) w->∃Si,YieldsIf P ops Si ⟨some Ξ,op,ty,pos,af,g⟩ v a/\Si w/\∀S,mg P E8 S->mg P A ((i,Si)::S))
  (h:GF P N ops (i::done) n A ((Ξ,v)::env) L Ρ):GF P N ops done (n+1) E8 env L Ρ:=by
 intro hK hs a2 θ aa a w S i0 a6 a3;simp only[iY,List.contains_iff_mem] at hr;obtain⟨I,Q⟩:=hr;obtain⟨ο,ea,a5,s⟩:=i0;obtain⟨Si,a7,a4,a9⟩:=U θ _ a w ea s
 have J:∀p∈(i,Si)::S,p.2 w:=λp hp=>by
  rcases L7 hp with rfl|hp
  .exact a4
  .exact a3 p hp
 refine PC.first hi (Region.noSelect_spec hs) (λc a w q=>(Ar hK c _ w q).elim) (λj hj=>tE _ j i hj) _ _ S a w a2 (Region.free_spec hi Q) I a7 a4 a3 ?_;exact h hK hs (a2.set I) θ aa (a.put (some Ξ) v) w _ ⟨ο,ea.put hd v,by rw[TC];exact a5,s⟩ (a9 S a6) J
def GF.MP{i Ξ:Nat}{op:Op}{ty:TypeId}{pos:String}{af:Array Edge}{v:Value}(hi:ops[i]? = some ⟨some Ξ,op,ty,pos,af,none⟩)
  (hr:((Region.ready .any ops (dT ops.size done)).contains i && Region.free .any ops (dT ops.size done) i)=true) (he:Z P [] env op ty v) (hd:Ξ<N) (h:GF P N ops (i::done) n E8 ((Ξ,v)::env) L Ρ):GF P N ops done (n+1) E8 env L Ρ:=by
 refine GF.c7 hi hd hr (λθ R a w ea s=>⟨λ_=>True,.inl ⟨rfl,?_⟩,trivial,λS hS p hp=>?_⟩) h
 .intro dH _;exact he ⟨dH.tape,dH.os,dH.output,0⟩ [] a.eval dH _ ea.O4 ⟨⟨rfl,rfl,rfl,aD _⟩,Hp.emp,Hp.emp,Hp.c7 _,Hp.a8 _,Hp.a8 _,trivial⟩ rfl rfl
 .rcases L7 hp with rfl|hp
  .exact .inl λ_=>trivial
  .exact hS p hp
def GF.NV{i Ξ:Nat}{op:Op}{ty:TypeId}{pos:String}{af:Array Edge}{v:Value}(hi:ops[i]? = some ⟨some Ξ,op,ty,pos,af,none⟩)
  (hr:((Region.ready .any ops (dT ops.size done)).contains i && Region.free .any ops (dT ops.size done) i)=true) (he:Z P L env op ty v) (hd:Ξ<N) (h:GF P N ops (i::done) n (⟨i,op,ty,env,v⟩::E8) ((Ξ,v)::env) L Ρ):GF P N ops done (n+1) E8 env L Ρ:=by
 refine GF.c7 hi hd hr (λθ R a w ea s=>⟨λdH=>(execOp a.eval ⟨some Ξ,op,ty,pos,af,none⟩).run P dH = .ok (.value v) dH,.inl ⟨rfl,λdH h=>h⟩,he θ R a.eval w _ ea.O4 s rfl rfl,λS hS p hp=>?_⟩) h;rcases L7 hp with rfl|hp
 .exact .inr ⟨_,au,rfl,a.eval,_,ea.O4,rfl,rfl,λw h=>h⟩
 .rcases hS p hp with h|⟨pe,I,Q⟩
  .exact .inl h
  .exact .inr ⟨pe,az _ I,Q⟩
def GE(P:Program)(N:Nat)(A:Array Oper)(done:List Nat)(j n:Nat)(J:List PE)(env:Env)(L:Ι)(Ρ:F8):Prop :=
 Ro Ρ->Region.noSelect A=true->NI .any A (dT A.size done)->j∈Region.ready .any A (dT A.size done) ->
 ∀θ aa a w S,At N env L θ aa a w->mg P J S->(∀p∈S,p.2 w) ->
  wpOp P A (QK θ aa N Ρ) j (λa' dH=>(∀p∈kp (Q3 A) j S,p.2 dH)/\PC P .any A (QK θ aa N Ρ) (Q3 A) n ((dT A.size done).setIfInBounds j true) (kp (Q3 A) j S) a' dH) a w
theorem GF.a8(i j:Nat)(hr:(Region.ready .any ops (dT ops.size done) == [i,j])=true)(I:GE P N ops done i n E8 env L Ρ)(Q:GE P N ops done j n E8 env L Ρ):GF P N ops done (n+1) E8 env L Ρ:=by
 intro hK hs a2 θ aa a w S i0 a3 a4;have J:=eq_of_beq hr;refine⟨λh0=>(by rw[h0] at J;cases J),λk hk=>?_⟩;have A:=hk;rw[J] at A;rcases L7 A with rfl|A
 .exact I hK hs a2 hk θ aa a w S i0 a3 a4
 .obtain rfl:=GO A;exact Q hK hs a2 hk θ aa a w S i0 a3 a4
def GE.ef{j Ξ:Nat}{op:Op}{ty:TypeId}{pos:String}{af:Array Edge}{post:Value->Ι->Prop}(hi:ops[j]? = some ⟨some Ξ,op,ty,pos,af,none⟩)(he:Ef P L env op ty post)(hd:Ξ<N)
  (h:∀v Ε,post v Ε->(∀pe∈E8,Z P Ε pe.env pe.op pe.ty pe.v)/\GF P N ops (j::done) n E8 ((Ξ,v)::env) Ε Ρ):GE P N ops done j n E8 env L Ρ:=by
 intro hK hs a2 a3 θ aa a w S i0 a6 a9;obtain⟨ο,ea,a4,s⟩:=i0;unfold wpOp;have hw:Region.wanted ⟨some Ξ,op,ty,pos,af,none⟩ (yielded ops a.tmps)=true:=rfl;simp only[hi,hw,if_true];refine .inl (he θ _ a w _ _ _ ea.O4 s rfl rfl λv Ε dH A s'=>?_);obtain⟨k1,k3⟩:=h v Ε A
 have J:∀p∈kp (Q3 ops) j S,p.2 dH/\((∀w,p.2 w)\/∃pe∈E8,pe.idx=p.1/\∃ρ o,Qe pe.env ρ/\o.op=pe.op/\o.type=pe.ty/\∀w,(execOp ρ o).run P w=.ok (.value pe.v) w->p.2 w):=by
  intro p hp;obtain⟨a5,a7⟩:=List.mem_filter.1 hp;rcases a6 p a5 with h|⟨pe,I,Q,ρ,o,h4,h5,h6,h7⟩
  .exact⟨h dH,.inl h⟩
  .exact⟨h7 dH (k1 pe I θ _ ρ dH o h4 s' h5 h6),.inr ⟨pe,I,Q,ρ,o,h4,h5,h6,h7⟩⟩
 exact⟨λp hp=>(J p hp).1,k3 hK hs (a2.set a3) θ aa _ dH _ ⟨ο,ea.put hd v,by rw[TC];exact a4,s'⟩ (λp hp=>(J p hp).2) (λp hp=>(J p hp).1)⟩
end gf
end
section
section closed
variable {P:Program}{N:Nat}{env:Env}{L:Ι}{Ρ:F8}
def GR(P:Program)(N:Nat)(c:Code):Nat->Env->Ι->F8->Prop
 | 0,_,_,_=>False
 | m+1,env,L,Ρ=>Β P N c env L (Ρ.seq λA Ε=>GR P N c m A Ε Ρ)
def GR.step{c:Code}{m:Nat}(h:Β P N c env L (Ρ.seq λA Ε=>GR P N c m A Ε Ρ)):GR P N c (m+1) env L Ρ:=h
def Β.d9{c:Code}(m:Nat)(h:GR P N c m env L Ρ):Β P N (.loop c) env L Ρ:=by
 intro Δ θ aa a w hr i;refine wpIn_loop_rounds m ?_;induction m generalizing env L a w with
 | zero=>exact h.elim
 | succ m ih =>
  rw[roundsIn_succ];refine wpIn_mono (h Δ θ aa a w hr i) ?_;rintro ex a' dH ⟨A,Ε,i',hk⟩;cases ex with
  | normal=>exact ih hk a' dH i'
  | exit r=>exact⟨A,Ε,i',hk⟩
  | goto l=>exact⟨A,Ε,i',hk⟩
  | ret=>exact⟨A,Ε,i',hk⟩
  | panic ch=>exact⟨A,Ε,i',hk⟩
  | outgrown=>exact⟨A,Ε,i',hk⟩
class YM (P:Program) (f:FuncId) (N:outParam Nat) (c:outParam Code) (rs:outParam (List ResultVar)):Prop where
 enters:Enters P f
 fn:∃fn:Func,P.funcs[f]? = some fn/\fn.body=some c/\fn.results=rs.toArray/\fn.ntmps=N
def Υ.inPlace{f:FuncId}{N:Nat}{c:Code}{rs:List ResultVar}{args:χ}{post:Value->Ι->Prop}[h:YM P f N c rs](hN:args.length<=N)(hg:Β P N c (OP args 0) L (Ends P N rs post)):Υ P f args.toArray L post:=by
 obtain⟨fn,I,Q,h3,h4⟩:=h.fn;exact Υ.body N h.enters I Q h3 h4 hN hg
