/- Lemmas. -/
import Derived.Test.YtommnllbflbdmaaGreatDoorAV16
import Derived.Laws.Strings2
set_option linter.all false
namespace Go.V
section
def iO(P:Program)(N:Nat)(rs:List ResultVar)(post:Value→LH→Prop):Post:=Ends P N rs post
section inp
variable {P:Program}{N M:Nat}{env:Env}{L:LH}{K:Post}{post:Value→LH→Prop}{ops:Array Oper}{rest:List Oper}{d:Nat}{ty:TypeId}{pos:String}{af:Array Edge}
def KX.m5{e:Exit}{rs:List ResultVar}(h:iO P N rs post e env L):iO P N rs post e env L:=h
def KX.in0{e:Exit}(he:e=.ret∨e=.normal)(h:post (.tuple #[]) L):iO P N [] post e env L:=⟨he,fun _ _ _ s=>⟨[],L,ResOk.nil,s,h⟩⟩
def KX.in1{e:Exit}{t:Nat}{v:Value}(he:e=.ret∨e=.normal)(h1:env.lookup t=some v)(h:post v L):iO P N [.tmp t] post e env L:=⟨he,fun _ _ _ s=>⟨[v],L,ResOk.tmp h1 ResOk.nil,s,h⟩⟩
def KX.in2{e:Exit}{t u:Nat}{v w:Value}(he:e=.ret∨e=.normal)(h1:env.lookup t=some v)(h2:env.lookup u=some w)(h:post (.tuple #[v,w]) L):iO P N [.tmp t,.tmp u] post e env L:=⟨he,fun _ _ _ s=>⟨[v,w],L,ResOk.tmp h1 (ResOk.tmp h2 ResOk.nil),s,h⟩⟩
def KX.in3{e:Exit}{t u x:Nat}{v w y:Value}(he:e=.ret∨e=.normal)(h1:env.lookup t=some v)(h2:env.lookup u=some w)(h3:env.lookup x=some y)(h:post (.tuple #[v,w,y]) L):iO P N [.tmp t,.tmp u,.tmp x] post e env L:=⟨he,fun _ _ _ s=>⟨[v,w,y],L,ResOk.tmp h1 (ResOk.tmp h2 (ResOk.tmp h3 ResOk.nil)),s,h⟩⟩
def KX.inC{e:Exit}{x b T n:Nat}{t:TypeId}{cs:LV}{Rest:LH}[ht:TyAgg P t n][hp:PickObj L b T cs Rest](he:e=.ret∨e=.normal)(h1:env.lookup x=some (ax b))(hn:cs.length=n)(h:post (.agg cs.toArray) L):iO P N [.cell x t] post e env L :=
 ⟨he,fun _ _ _ s=>⟨[.agg cs.toArray],L,ResOk.cell h1 hn ResOk.nil,s,h⟩⟩
def KX.l9{e:Exit}{x b T n u:Nat}{t:TypeId}{cs:LV}{w:Value}{Rest:LH}[ht:TyAgg P t n][hp:PickObj L b T cs Rest](he:e=.ret∨e=.normal)(h1:env.lookup x=some (ax b))(hn:cs.length=n)(h2:env.lookup u=some w)(h:post (.tuple #[.agg cs.toArray,w]) L):iO P N [.cell x t,.tmp u] post e env L :=
 ⟨he,fun _ _ _ s=>⟨[.agg cs.toArray,w],L,ResOk.cell h1 hn (ResOk.tmp h2 ResOk.nil),s,h⟩⟩
variable {f:FuncId}{fn:Func}{c:Code}{rs:List ResultVar}{xs:Array Operand}{ats:Array TypeId}{vs:LV}
def GO.l0(he:Enters P f)(hf:P.funcs[f]? = some fn)(hb:fn.body=some c)(hr:fn.results=rs.toArray)(hN:fn.ntmps=M)(hv:gg env xs.toList=some vs)(a0 : vs.length≤M)(hd:d<N)
  (h:G P M c (env0 vs 0) L (iO P M rs (fun v L'=>GO P N ops rest ((d,v)::env) L' K))):GO P N ops (⟨some d,.call { callee:=.value (.func f),args:=xs,argTypes:=ats },ty,pos,af,none⟩::rest) env L K :=
 GO.ef (Ef.f8 (Tri.body (args:=vs) M he hf hb hr hN a0 h) hv) hd fun _ _ h=>h
def GPW.e9{done:List Nat}{plan:List Stp}{a0:List PE}{i:Nat}(he:Enters P f)(hf:P.funcs[f]? = some fn)(hb:fn.body=some c)(hr:fn.results=rs.toArray)(hN:fn.ntmps=M)(hv:gg env xs.toList=some vs)(a1 : vs.length≤M)(hd:d<N)
  (h:G P M c (env0 vs 0) L (iO P M rs (fun v L'=>GPK P N ops done i plan a0 [] ((d,v)::env) L' K))):GPW P N ops done (.ef i) plan (some d) (.call { callee:=.value (.func f),args:=xs,argTypes:=ats }) ty a0 env L K :=
 GPW.ef (Ef.f8 (Tri.body (args:=vs) M he hf hb hr hN a1 h) hv) hd fun _ _ h=>h
def Ef.g7{x:Operand}{first cap:LV}{post:Value→LH→Prop}(c:Tri P f (first++vs++cap).toArray L post)(hx:evE env x=some (.func (.func f) first.toArray cap.toArray))(hv:gg env xs.toList=some vs) :
  Ef P L env (.call { callee:=.value x,args:=xs,argTypes:=ats }) ty post:=by
 have h:=Ef.m8 (R':=[]) (ats:=ats) (ty:=ty) c hx hv (by rw[aQ];exact Ent.refl _);intro θ R a w o next Q ha s h1 h2 hn
 exact h θ R a w o next Q ha s h1 h2 (fun v L' w' ⟨L₁,hp,he⟩ s'=>hn v L₁ w' hp (by rw[he,aQ] at s';exact s'))
def GO.j0{x:Operand}{first cap:LV}(hx:evE env x=some (.func (.func f) first.toArray cap.toArray))(he:Enters P f)(hf:P.funcs[f]? = some fn)(hb:fn.body=some c)(hr:fn.results=rs.toArray)(hN:fn.ntmps=M)(hv:gg env xs.toList=some vs)(a0 : (first++vs++cap).length≤M)(hd:d<N)
  (h:G P M c (env0 (first++vs++cap) 0) L (iO P M rs (fun v L'=>GO P N ops rest ((d,v)::env) L' K))):GO P N ops (⟨some d,.call { callee:=.value x,args:=xs,argTypes:=ats },ty,pos,af,none⟩::rest) env L K :=
 GO.ef (Ef.g7 (Tri.body (args:=first++vs++cap) M he hf hb hr hN a0 h) hx hv) hd fun _ _ h=>h
def GPW.e8{done:List Nat}{plan:List Stp}{a0:List PE}{i:Nat}{x:Operand}{first cap:LV}(hx:evE env x=some (.func (.func f) first.toArray cap.toArray))(he:Enters P f)(hf:P.funcs[f]? = some fn)(hb:fn.body=some c)(hr:fn.results=rs.toArray)(hN:fn.ntmps=M)(hv:gg env xs.toList=some vs)(a1 : (first++vs++cap).length≤M)(hd:d<N)
  (h:G P M c (env0 (first++vs++cap) 0) L (iO P M rs (fun v L'=>GPK P N ops done i plan a0 [] ((d,v)::env) L' K))):GPW P N ops done (.ef i) plan (some d) (.call { callee:=.value x,args:=xs,argTypes:=ats }) ty a0 env L K :=
 GPW.ef (Ef.g7 (Tri.body (args:=first++vs++cap) M he hf hb hr hN a1 h) hx hv) hd fun _ _ h=>h
def GO.ci[e:En P f fn M](h:G P M c (env0 vs 0) L (iO P M rs (fun v L'=>GO P N ops rest ((d,v)::env) L' K)))(hb:fn.body=some c:=by exact rfl)(hr:fn.results=rs.toArray:=by exact rfl)(hv:gg env xs.toList=some vs:=by exact rfl)(a0 : vs.length≤M:=by simp)(hd:d<N:=by decide):GO P N ops (⟨some d,.call { callee:=.value (.func f),args:=xs,argTypes:=ats },ty,pos,af,none⟩::rest) env L K:=GO.l0 e.en e.hf hb hr e.hN hv a0 hd h
def GPW.ci{done:List Nat}{plan:List Stp}{a0:List PE}{i:Nat}[e:En P f fn M](h:G P M c (env0 vs 0) L (iO P M rs (fun v L'=>GPK P N ops done i plan a0 [] ((d,v)::env) L' K)))(hb:fn.body=some c:=by exact rfl)(hr:fn.results=rs.toArray:=by exact rfl)(hv:gg env xs.toList=some vs:=by exact rfl)(a1 : vs.length≤M:=by simp)(hd:d<N:=by decide):GPW P N ops done (.ef i) plan (some d) (.call { callee:=.value (.func f),args:=xs,argTypes:=ats }) ty a0 env L K:=GPW.e9 e.en e.hf hb hr e.hN hv a1 hd h
def GO.cf{x:Operand}{first cap:LV}(hx:evE env x=some (.func (.func f) first.toArray cap.toArray))[e:En P f fn M](h:G P M c (env0 (first++vs++cap) 0) L (iO P M rs (fun v L'=>GO P N ops rest ((d,v)::env) L' K)))(hb:fn.body=some c:=by exact rfl)(hr:fn.results=rs.toArray:=by exact rfl)(hv:gg env xs.toList=some vs:=by exact rfl)(a0 : (first++vs++cap).length≤M:=by simp)(hd:d<N:=by decide):GO P N ops (⟨some d,.call { callee:=.value x,args:=xs,argTypes:=ats },ty,pos,af,none⟩::rest) env L K:=GO.j0 hx e.en e.hf hb hr e.hN hv a0 hd h
def GPW.cf{done:List Nat}{plan:List Stp}{a0:List PE}{i:Nat}{x:Operand}{first cap:LV}(hx:evE env x=some (.func (.func f) first.toArray cap.toArray))[e:En P f fn M](h:G P M c (env0 (first++vs++cap) 0) L (iO P M rs (fun v L'=>GPK P N ops done i plan a0 [] ((d,v)::env) L' K)))(hb:fn.body=some c:=by exact rfl)(hr:fn.results=rs.toArray:=by exact rfl)(hv:gg env xs.toList=some vs:=by exact rfl)(a1 : (first++vs++cap).length≤M:=by simp)(hd:d<N:=by decide):GPW P N ops done (.ef i) plan (some d) (.call { callee:=.value x,args:=xs,argTypes:=ats }) ty a0 env L K:=GPW.e8 hx e.en e.hf hb hr e.hN hv a1 hd h
def KX.inA{φ ψ:Prop}(k:ψ)(h:Hid ψ→φ:=by intro k;(with_reducible apply KX.m5);first|refine KX.in0 (.inl rfl) (Hid.out k)|refine KX.in0 (.inr rfl) (Hid.out k)|refine KX.in1 (.inl rfl) rfl (Hid.out k)|refine KX.in2 (.inl rfl) rfl rfl (Hid.out k)|refine KX.in3 (.inl rfl) rfl rfl rfl (Hid.out k)|refine KX.inC (.inl rfl) rfl aK (Hid.out k)|refine KX.l9 (.inl rfl) rfl aK rfl (Hid.out k)):φ:=h ⟨k⟩
def Ef.d8{x:Operand}{first cap:LV}{post:Value→LH→Prop}(hx:evE env x=some (.func (.func f) first.toArray cap.toArray))(hv:gg env xs.toList=some vs)(c:Tri P f (first++vs++cap).toArray L post) :
  Ef P L env (.call { callee:=.value x,args:=xs,argTypes:=ats }) ty post:=Ef.g7 c hx hv
def Ef.m7{x:Operand}{first cap:LV}{pre R' : LH}{post:Value→LH→Prop}(hx:evE env x=some (.func (.func f) first.toArray cap.toArray))(hv:gg env xs.toList=some vs)(c:Tri P f (first++vs++cap).toArray pre post)(hL:Ent L (pre++R')) :
  Ef P L env (.call { callee:=.value x,args:=xs,argTypes:=ats }) ty (fun v L'=>∃L₁,post v L₁∧L' = L₁++R'):=Ef.m8 c hx hv hL
end inp
end
section
class TyArr (P:Program) (T:Nat) (n E sz:outParam Nat):Prop where
 under:P.underlying T=some (.array n E)
 size:(P.info? E).map (·.size)=some sz
def TyArr.sizeOf_run{P:Program}{T n E sz:Nat}(h:TyArr P T n E sz)(w:World):(sizeOf E).run P w=.ok sz w:=by
 have h1:=h.size;cases hi:P.info? E with
 | none=>rw[hi] at h1;cases h1
 | some i=>rw[hi] at h1;simp at h1;simp[sizeOf,typeInfo,hi,h1]
def Iz(a:Addr)(i j:Nat):(a.add i).add j=a.add (i+j):=by
 unfold Addr.add;by_cases hi:i=0
 ·subst hi;simp
 ·by_cases hj:j=0
  ·subst hj;simp[hi]
  ·have:i+j≠0:=ab;simp[hi,hj,dy]
section
variable {P:Program}{N:Nat}{env:Env}{L:LH}{ty:TypeId}{v:Value}
def Ev.t8{t:TypeId}{x i:Operand}(h:Ev P L env (.index t x i) ty v):Ev P L env (.index t x i) ty v:=h
def Ev.n8{t:TypeId}{x i:Operand}{b o n E sz:Nat}{j:Int}{k:IntKind}[ht:TyArr P t n E sz](hx:evE env x=some (.pointer (some ⟨b,o,none⟩)))(hi:evE env i=some (.int k j))(h0:0≤j)(h1:j<n) :
  Ev P L env (.indexAddr t x i) ty (.pointer (some ⟨b,o+j.toNat*sz,none⟩)) :=
 Ev.mk (fun θ R _ w ea s _ _ _ _=>by
  simp[execOp,aP ea hx,aP ea hi,Instr.indexAt,asIntOf,run_underlying ht.under,h0,h1,ht.sizeOf_run,jV,Instr.sureAddr])
def Ev.o6{t:TypeId}{x i:Operand}{ad:OA}{s' m o n E sz:Nat}{j:Int}{k:IntKind}{α:Type}{enc:α→LV}{xs:List α}[ht:TyArr P t n E sz][hr:Rds L ad α enc s' xs](hx:evE env x=some (.pointer (elP ad s' m o)))(hi:evE env i=some (.int k j))(hm:m<xs.length)(h0:0≤j)(h1:j<n) :
  Ev P L env (.indexAddr t x i) ty (.pointer (elP ad s' m (o+j.toNat*sz))) :=
 Ev.mk (fun θ R _ w ea s _ _ _ _=>by
  obtain⟨_,h2⟩:=hr.rd θ R w s;rcases h2 with h2|⟨a,rfl,_⟩
  ·subst h2;simp at hm
  ·simp[execOp,aP ea hx,aP ea hi,Instr.indexAt,asIntOf,run_underlying ht.under,h0,h1,ht.sizeOf_run,elP,Instr.sureAddr,Iz,dy])
def DI{s:ByteArray}{i:Nat}(h:i<s.size):s[i]? = some (s.data[i]'(by simpa using h)):=by
 simp[h];rfl
def Ev.r4{t:TypeId}{x i:Operand}{s:ByteArray}{j:Int}{k:IntKind}[ht:TyStr P t](hx:evE env x=some (.string s))(hi:evE env i=some (.int k j))(h0:0≤j)(h1:j<s.size) :
  Ev P L env (.index t x i) ty (.int .u8 ((gH s)[j.toNat]!)) :=
 Ev.mk (fun θ R _ w ea st _ _ _ _=>by
  have a0:j.toNat<s.size:=ab
  have hn:(gH s)[j.toNat]! = ((s.data[j.toNat]'(by simpa using a0)).toNat:Int):=by
   rw[List.getElem!_eq_getElem?_getD,List.getElem?_eq_getElem (by rw[tF];exact a0)];simp[gH]
  rw[hn];simp[execOp,aP ea hx,aP ea hi,Instr.index,asIntOf,run_underlying ht.under,h0,DI a0])
def Ft(s:ByteArray):∀x∈gH s,0≤x∧x≤255:=by
 intro x hx;simp only[gH,List.mem_map] at hx;obtain⟨y,_,rfl⟩:=hx;have:=y.toNat_lt
 omega
def Ev.r9{t:TypeId}{x lo hi:Operand}{s:ByteArray}{k k' : IntKind}{i j:Int}[ht:TyStr P t](hx:evE env x=some (.string s))(hl:evE env lo=some (.int k i))(hh:evE env hi=some (.int k' j))(h0:0≤i)(h1:i≤j)(h2:j≤s.size) :
  Ev P L env (.slice t x (some lo) (some hi) none) ty (.string (s.extract i.toNat j.toNat)) :=
 Ev.mk (fun θ R _ w ea st _ _ _ _=>by
  have h3:0≤j:=ab;simp[execOp,aP ea hx,aP ea hl,aP ea hh,Instr.sliceAt,Instr.slice,Instr.sliceBounds,Instr.sliceBound,asIntOf,run_underlying ht.under,h0,h2,h3];intro h;exact absurd h ab)
def Bc(s:ByteArray):s.extract 0 s.size=s:=by
 apply ByteArray.ext;simp
end
end
section
def putK:Nat→LV→LV→(LV→Option (LV))→Option (LV)
 | 0,[],z,k=>k z
 | 0,c::cs,_::z,k=>putK 0 cs z fun r=>k (c::r)
 | o+1,cs,x::z,k=>putK o cs z fun r=>k (x::r)
 | _,_,[],_=>none
def qS:∀(o:Nat) (cs z:LV) (k:LV→Option (LV)) (r:LV),putK o cs z k=some r→o+cs.length≤z.length∧k (z.take o++cs++z.drop (o+cs.length))=some r
 | 0,[],z,k,r,h=>by simpa [putK] using h
 | 0,c::cs,[],k,r,h=>by simp[putK] at h
 | 0,c::cs,_::z,k,r,h=>by
  simp only[putK] at h;have:=qS 0 cs z _ r h
  simp at this ⊢;exact this
 | o+1,cs,[],k,r,h=>by simp[putK] at h
 | o+1,cs,x::z,k,r,h=>by
  simp only[putK] at h;have:=qS o cs z _ r h
  rw[show o+1+cs.length=o+cs.length+1 by omega];simp at this ⊢;exact⟨ab,this.2⟩
def subK:Nat→Nat→LV→(LV→Option (LV))→Option (LV)
 | 0,0,_,k=>k []
 | 0,n+1,x::z,k=>subK 0 n z fun r=>k (x::r)
 | o+1,n,_::z,k=>subK o n z k
 | _,_,[],_=>none
def ui:∀(o n:Nat) (z:LV) (k:LV→Option (LV)) (r:LV),subK o n z k=some r→o+n≤z.length∧k ((z.drop o).take n)=some r
 | 0,0,z,k,r,h=>by cases z<;>simpa [subK] using h
 | 0,n+1,[],k,r,h=>by simp[subK] at h
 | 0,n+1,x::z,k,r,h=>by
  simp only[subK] at h;have:=ui 0 n z _ r h
  simp at this ⊢;exact this
 | o+1,n,[],k,r,h=>by cases n<;>simp[subK] at h
 | o+1,n,x::z,k,r,h=>by
  have h' : subK o n z k=some r:=by cases n<;>simpa only[subK] using h
  have:=ui o n z _ r h'
  rw[show o+1+n=o+n+1 by omega];simp at this ⊢;exact this
def lX:Value→LV
 | .agg cs=>cs.toList
 | v=>[v]
def wi:Value→Bool
 | .tuple _=>true
 | _=>false
def EL(v:Value)(ht:wi v=false):v.cells=(lX v).toArray:=by
 cases v<;>simp[Value.cells,lX,wi] at ht ⊢
def qM(pl:List (Nat×Nat)):List (Nat×Value)→LV→Option (LV)
 | [],z=>some z
 | (i,v)::r,z=>match pl[i]? with
  | none=>none
  | some (off,sz)=>if wi v=false∧(lX v).length=sz then putK off (lX v) z fun z'=>qM pl r z' else none
def Ho(off:Nat)(cs z:LV)(h:off+cs.length≤z.length):(cs.toArray.zipIdx.foldl (fun (a:Array Value) (p:Value×Nat)=>a.setIfInBounds (off+p.2) p.1) z.toArray)=(z.take off++cs++z.drop (off+cs.length)).toArray:=by
 have a0:∀(cs:LV) (k:Nat) (z:LV),off+k+cs.length≤z.length→(cs.zipIdx k).foldl (fun (a:Array Value) (p:Value×Nat)=>a.setIfInBounds (off+p.2) p.1) z.toArray=(z.take (off+k)++cs++z.drop (off+k+cs.length)).toArray:=by
  intro cs;induction cs with
  | nil=>intro k z _;simp
  | cons c cs ih =>
   intro k z hz;simp only[bh] at hz;simp only[List.zipIdx_cons,fU,List.setIfInBounds_toArray];rw[ih (k+1) (z.set (off+k) c) fW];congr 1;rw[show off+(k+1)=off+k+1 by omega,aD fW,List.getElem_set_self,List.take_set_of_le ab,List.drop_set_of_lt ab];simp only[aH,ao,an,bh];rw[show off+k+1+cs.length=off+k+(cs.length+1) by omega]
 have:=a0 cs 0 z ab
 simpa using this
def rK(pl:List (Nat×Nat)):∀(vs:List (Nat×Value)) (z cs:LV),qM pl vs z=some cs→Instr.fill (fun i=>pl.toArray[i]?) z.toArray vs=some cs.toArray
 | [],z,cs,h=>by simp[qM] at h;simp[Instr.fill,h]
 | (i,v)::r,z,cs,h=>by
  simp only[qM] at h;cases h1:pl[i]? with
  | none=>rw[h1] at h;cases h
  | some p =>
   obtain⟨off,sz⟩:=p;rw[h1] at h;simp only at h;by_cases hc:wi v=false∧(lX v).length=sz
   ·rw[if_pos hc] at h;obtain⟨h3,h4⟩:=qS _ _ _ _ _ h;have ih:=rK pl r _ _ h4;have a1:=hc.2;simp only[Instr.fill,List.getElem?_toArray,h1,EL v hc.1,List.size_toArray];have a0:¬(decide ((lX v).length≠sz) || decide (off+(lX v).length>z.length))=true:=by simp[a1];omega
    rw[if_neg a0,Ho off (lX v) z h3];simp only[List.getElem?_toArray] at ih;exact ih
   ·rw[if_neg hc] at h;cases h
def rJ{α:Type}{enc:α→LV}{sz:Nat}(e:α):∀{xs:List α} {j:Nat},(∀x∈xs,(enc x).length=sz)→j<xs.length→(xs.set j e).flatMap enc=(xs.flatMap enc).take (j*sz)++enc e++(xs.flatMap enc).drop (j*sz+sz)
 | [],j,_,h=>by simp at h
 | x::xs,0,hs,_=>by
  have hx:=hs x (aq ..);simp only[List.set_cons_zero,bB,Nat.zero_mul,bH,an,dq];rw[←hx,List.drop_left]
 | x::xs,j+1,hs,h=>by
  have hx:=hs x (aq ..);have ih:=rJ e (xs:=xs) (j:=j) (fun y hy=>hs y (au _ hy)) (by simpa using h);simp only[List.set_cons_succ,bB,ih];rw[show(j+1)*sz=(enc x).length+j*sz by rw[hx,Nat.succ_mul];omega,List.take_length_add_append,dy,List.drop_length_add_append];simp only[aH]
section
variable {P:Program}{N:Nat}{env:Env}{L:LH}{ty:TypeId}{v:Value}
def Ev.z6{t:TypeId}{ps:Array (Nat×Operand)}{vs:List (Nat×Value)}{pl:List (Nat×Nat)}{z cs:LV}[hs:TyStruct P t pl][hz:ZeroT P t z](hv:ld env ps.toList=some vs)(hc:qM pl vs z=some cs):Ev P L env (.build t ps) ty (.agg cs.toArray) :=
 Ev.mk (fun θ R ρ w ea s _ _ _ _=>by
  obtain⟨z0,h1,h2⟩:=hz.run w;have he:=hs.eq;cases hu:P.underlying t with
  | none=>rw[hu] at he;cases he
  | some dsc =>
   rw[hu] at he;cases dsc<;>simp[sf] at he;rename_i fs;have hm:=nO (P:=P) (w:=w) fs.toList pl (by simpa using he)
   have a0:ps.map (fun p=>(p.1,ρ p.2))=vs.toArray:=by
    apply Array.ext';simpa using ea.pairs ps.toList vs hv
   have a1 : (fs.mapM fun (f:Field)=>do pure (f.offset,←sizeOf f.type)).run P w=.ok pl.toArray w:=by
    have e:fs=fs.toList.toArray:=by simp
    rw[e,List.mapM_toArray];simp only[Sem.run_map,hm,Result.andThen_ok]
   have hf:=rK pl vs z cs hc;simp only[execOp,a0,Instr.build,Sem.run_bind,h1,Result.andThen_ok,run_underlying hu,a1,h2];simp only[hf];simp)
def Ev.d9{t:TypeId}{x:Operand}{b o T n:Nat}{cs vs:LV}{Rest:LH}[ht:TyAgg P t n][hp:PickObj L b T cs Rest](hx:evE env x=some (.pointer (some ⟨b,o,none⟩)))(hs:subK o n cs some=some vs):Ev P L env (.load t x) ty (.agg vs.toArray) :=
 Ev.mk (fun θ R _ w ea s _ _ _ _=>by
  obtain⟨h1,h2⟩:=ui _ _ _ _ _ hs;simp only[Option.some.injEq] at h2;subst h2;have hb:=s.obj_heap hp.perm
  have hl:=run_loadCells_list (P:=P) w ⟨b,o,none⟩ ((cs.drop o).take n) (fun j v hv=>by
   have hj:j<n:=by have:=(List.getElem?_eq_some_iff.1 hv).1;simp at this;omega
   rw[jV,fk hb];simp[hj] at hv ⊢;exact hv)
  have a0:((cs.drop o).take n).length=n:=by simp;omega
  rw[a0] at hl;simp[execOp,aP ea hx,Instr.loadAt,Instr.sureAddr,loadVar,ht.run,TyAgg.sizeOf_run,hl])
def Ef.l0{t:TypeId}{x y:Operand}{b o T n:Nat}{cs vs a1 : LV}{Rest:LH}[ht:TyAgg P t n][hp:PickObj L b T cs Rest](hx:evE env x=some (.pointer (some ⟨b,o,none⟩)))(hy:evE env y=some (.agg vs.toArray))(hn:vs.length=n)(hs:putK o vs cs some=some a1)(h1:∀v∈vs,v.oneCell' = true)
  : Ef P L env (.store t x y) ty (fun _ L'=>L' = obj b T a1::Rest) :=
 Ef.skip (fun θ R a w ea s a2 pos af g=>by
  obtain⟨h2,h3⟩:=qS _ _ _ _ _ hs;simp only[Option.some.injEq] at h3;subst h3;have s1:=s.perm (hp.perm.append_right R);have hb:w.heap[b]? = some (.cells cs.toArray T (0,0)):=s1.own_heap;have a0:=run_storeCells_at P b o T vs 0 cs.toArray w hb fW h1;refine⟨w.setRow b (cs.take o++vs++cs.drop (o+vs.length)).toArray,_,?_,rfl,?_⟩
  ·simp[execOp,aP ea hx,aP ea hy,Instr.storeAt,Instr.sureAddr,storeVar,TyAgg.sizeOf_run,Value.cells,hn] at a0 ⊢;rw[a0];simp
  ·exact Sat.update s1 ⟨s.1.tape,s.1.os,s.1.output,s.1.drawn⟩ (setRow_heap w b _ _ T _ hb) (fun j x hj hx=>by rw[setRow_other w b j _ hj];exact hx))
def Ev.q5{t:TypeId}{x:Operand}{b m sz j o:Nat}{α:Type}[Inhabited α]{enc:α→LV}{xs:List α}[ht:TyOne P t][hr:Rds L (some ⟨b,0,none⟩) α enc sz xs]
  (hx:evE env x=some (.pointer (some ⟨b,m,none⟩))) (hm:m=j*sz+o) (hj:j<xs.length) (ho:o<sz) (hv:(enc xs[j]!)[o]? = some v):Ev P L env (.load t x) ty v:=by
 refine Ev.f7 (ad:=some ⟨b,0,none⟩) (sz:=sz) (j:=j) (o:=o) ?_ hj ho hv;rw[hx,hm];simp only[elP,fq,gJ]
def Ef.e8{t:TypeId}{x y:Operand}{ad:OA}{sz j E cap:Nat}{α:Type}[Inhabited α]{enc:α→LV}{xs:List α}{Rest:LH}{vs:LV}(e:α)[ht:TyAgg P t sz][hp:PickOsl L ad α enc sz E cap xs Rest]
  (hx:evE env x=some (.pointer (elP ad sz j 0))) (hy:evE env y=some (.agg vs.toArray)) (he:enc e=vs) (hn:vs.length=sz) (h1:∀v∈vs,v.oneCell' = true) (hj:j<xs.length) :
  Ef P L env (.store t x y) ty (fun _ L'=>L' = osl enc sz E ad cap (xs.set j e)::Rest) :=
 Ef.skip (fun θ R ρ w ea s a9 pos af g=>by
  have s1:=s.perm (hp.perm.append_right R);obtain⟨p1,p2,p3,p4⟩:=Sat.osl_parts s1;rcases p4 with⟨rfl,rfl⟩|⟨gb,a0,rfl,f1,f2,f3⟩
  ·omega
  ·have hb:w.heap[gb]? = some (.cells a0 E (0,0)):=f3.own_heap;have a1:(j+1)*sz≤xs.length*sz:=dH _ hj;rw[Nat.succ_mul] at a1;have a5:=dH sz p2;have a2:=run_storeCells_at P gb (j*sz) E vs 0 a0 w hb ab h1
   have a7:∀y∈xs.set j e,(enc y).length=sz:=by
    intro y a6;rcases ee a6 with h|h
    ·exact p1 y h
    ·subst h;rw[he];exact hn
   have a4 : evE env x=some (.pointer (some ⟨gb,j*sz,none⟩)):=by rw[hx];simp only[elP,fq,gJ,Nat.add_zero]
   refine⟨w.setRow gb (a0.toList.take (j*sz)++vs++a0.toList.drop (j*sz+sz)).toArray,_,?_,rfl,?_⟩
   ·simp[execOp,aP ea a4,aP ea hy,Instr.storeAt,Instr.sureAddr,storeVar,TyAgg.sizeOf_run,Value.cells,hn] at a2 ⊢;rw[a2];simp
   ·have s3:Sat θ (own gb (.cells (a0.toList.take (j*sz)++vs++a0.toList.drop (j*sz+sz)).toArray E (0,0))::(Rest++R)) (w.setRow gb (a0.toList.take (j*sz)++vs++a0.toList.drop (j*sz+sz)).toArray) :=
     Sat.update f3 ⟨s.1.tape,s.1.os,s.1.output,s.1.drawn⟩ (setRow_heap w gb _ _ E _ hb) (fun k x hk hx=>by rw[setRow_other w gb k _ hk];exact hx)
    refine Sat.osl_mk (L:=Rest++R) s3 a7 (by simpa using p2) p3 ?_ ?_
    ·simp[hn];omega
    ·have a3:(a0.toList.take (j*sz)).length=j*sz:=by simp;omega
     rw[rJ e p1 hj,←f2,he,cu,List.take_take,Nat.min_eq_left ab,List.drop_take];simp only;have a8:(a0.toList.take (j*sz)++vs).length=j*sz+sz:=by rw[ay,a3,hn]
     rw[List.take_append,a8,aF (l:=a0.toList.take (j*sz)++vs) ab])
def uD{α:Type}{enc:α→LV}{z:Array Value}{e:α}(he:enc e=z.toList)(hz:0<z.size)(n:Nat):((List.replicate n e).flatMap enc).toArray=madeCells z (n*z.size):=by
 apply Array.ext
 ·simp[madeCells,fI (enc:=enc) (sz:=z.size) (xs:=List.replicate n e) (fun x hx=>by rw[gu hx,he];simp)]
 ·intro i h1 h2;simp only[madeCells,Array.getElem_map,Array.getElem_range]
  have a0:((List.replicate n e).flatMap enc).length=n*z.size:=by
   have:=fI (enc:=enc) (sz:=z.size) (xs:=List.replicate n e) (fun x hx=>by rw[gu hx,he];simp)
   simpa using this
  have hi:i<n*z.size:=by simpa [a0] using h1
  have hq:i / z.size<n:=(fZ hz).2 hi;have hr:=dT i hz;have hd:=fT i z.size;haveI:Inhabited α:=⟨e⟩
  have:=ph (enc:=enc) (sz:=z.size) (xs:=List.replicate n e) (fun x hx=>by rw[gu hx,he];simp) (j:=i / z.size) (o:=i % z.size) (by simpa using hq) hr
  rw[show i / z.size*z.size+i % z.size=i by rw[fh];exact hd] at this;rw[List.getElem!_eq_getElem?_getD,List.getElem?_replicate,if_pos hq] at this;simp only[gk,he] at this;rw[List.getElem?_eq_getElem ab] at this;simp only[Array.getElem?_toList,Array.getElem?_eq_getElem hr,Option.some.injEq] at this;simp only[List.getElem_toArray,this];rw[getElem!_pos z (i % z.size) hr]
def Ef.e9{t:TypeId}{x y:Operand}{E sz bb:Nat}{z:LV}{α:Type}(enc:α→LV)(e:α){n c:Int}[ht:TySl P t E sz bb z](hx:evE env x=some (ac n))(hy:evE env y=some (ac c))(he:enc e=z)(h0:0≤n)(hc:n≤c)(h1:c*bb≤16777216)(h2:c≤1000000000) :
  Ef P L env (.makeSlice t x y) ty (fun v L'=>∃b,v=.slice (some ⟨b,0,none⟩) n.toNat c.toNat∧L' = osl enc sz E (some ⟨b,0,none⟩) c.toNat (List.replicate n.toNat e)::L) :=
 Ef.val (fun θ R a w ea s a3 pos af g=>by
  obtain⟨ii,zz,i1,i2,i3,i4,i5⟩:=ht.parts;have a2:zz.cells.size=sz:=by rw[←gQ,i3];exact ht.zlen
  have a1:=ht.pos;have hk:=run_make (P:=P) w t E ii zz ht.under i1 i2 .i64 .i64 n c h0 hc (by rw[i5,Int.mul_comm];omega) ab;rw[i4,←a2,←uD (enc:=enc) (e:=e) (by rw[he,i3]) ab] at hk;refine⟨.slice (some ⟨w.heap.size,0,none⟩) n.toNat c.toNat,w.alloc (.cells ((List.replicate c.toNat e).flatMap enc).toArray E),_,by simp[execOp,aP ea hx,aP ea hy,hk],⟨_,rfl,rfl⟩,?_⟩;have s1:=s.alloc (o:=.cells ((List.replicate c.toNat e).flatMap enc).toArray E);have a0:∀(k:Nat),∀x∈List.replicate k e,(enc x).length=sz:=fun k x hx=>by rw[gu hx,he];exact ht.zlen
  refine Sat.osl_mk (enc:=enc) (sz:=sz) (cap:=c.toNat) (xs:=List.replicate n.toNat e) (L:=L++R) s1 (a0 _) fW (by simp only[maxLen];omega) ?_ ?_
  ·simp only[List.size_toArray];rw[fI (a0 _),List.length_replicate]
  ·have e1:List.replicate c.toNat e=List.replicate n.toNat e++List.replicate (c.toNat - n.toNat) e:=by
    rw[List.replicate_append_replicate];congr 1;omega
   rw[e1,dd];simp only;rw[List.take_append_of_le_length (by rw[fI (a0 _)];exact aB _),aF (by rw[fI (a0 _)];exact aB _)])
end
end
section
def aa{φ ψ:Prop}(k:ψ)(h:Hid ψ→φ:=by intro k;(repeat1' (first|refine Jp ?_|((with_reducible apply GPK.d7);first|refine GPK.keep yl ?_|refine GPK.drop rfl ?_)|with_reducible apply G.seq));exact Hid.out k):φ:=h ⟨k⟩
def Jq{φ ψ:Prop}(k:ψ)(h:Hid ψ→φ:=by intro k;(repeat (first|refine aa ?_|intro zzz));(repeat revert zzz);exact Hid.out k):φ:=h ⟨k⟩
def bW{φ ψ:Prop}(k:ψ)(h:Hid ψ→φ:=by intro k;(repeat1' (first|refine Jp ?_|((with_reducible apply GPK.d7);first|refine GPK.keep yl ?_|refine GPK.drop rfl ?_)));exact Hid.out k):φ:=h ⟨k⟩
