/- Lemmas. -/
import Derived.Test.YtlgpgjdggilkgaaGreatDoorEcaf
import Derived.Laws.Strings2
import Derived.Test.YtlgpgjdggilkgaaGreatDoorProg
import Derived.KernelRfl
set_option linter.all false
namespace Go.V
section
def iw(P:Program)(N:Nat)(rs:List ResultVar)(post:Value→LH→Prop):Post:=Ends P N rs post
section inp
variable {P:Program}{N M:Nat}{env:Env}{L:LH}{K:Post}{post:Value→LH→Prop}{ops:Array Oper}{rest:List Oper}{d:Nat}{ty:TypeId}{pos:String}{af:Array Edge}
def KX.j5{e:Exit}{rs:List ResultVar}(h:iw P N rs post e env L):iw P N rs post e env L:=h
def KX.in0{e:Exit}(he:e=.ret∨e=.normal)(h:post (.tuple #[]) L):iw P N [] post e env L:=⟨he,fun _ _ _ s=>⟨[],L,ResOk.nil,s,h⟩⟩
def KX.in1{e:Exit}{t:Nat}{v:Value}(he:e=.ret∨e=.normal)(h1:env.lookup t=some v)(h:post v L):iw P N [.tmp t] post e env L:=⟨he,fun _ _ _ s=>⟨[v],L,ResOk.tmp h1 ResOk.nil,s,h⟩⟩
def KX.in2{e:Exit}{t u:Nat}{v w:Value}(he:e=.ret∨e=.normal)(h1:env.lookup t=some v)(h2:env.lookup u=some w)(h:post (.tuple #[v,w]) L):iw P N [.tmp t,.tmp u] post e env L:=⟨he,fun _ _ _ s=>⟨[v,w],L,ResOk.tmp h1 (ResOk.tmp h2 ResOk.nil),s,h⟩⟩
def KX.in3{e:Exit}{t u x:Nat}{v w y:Value}(he:e=.ret∨e=.normal)(h1:env.lookup t=some v)(h2:env.lookup u=some w)(h3:env.lookup x=some y)(h:post (.tuple #[v,w,y]) L):iw P N [.tmp t,.tmp u,.tmp x] post e env L:=⟨he,fun _ _ _ s=>⟨[v,w,y],L,ResOk.tmp h1 (ResOk.tmp h2 (ResOk.tmp h3 ResOk.nil)),s,h⟩⟩
def KX.inC{e:Exit}{x b T n:Nat}{t:TypeId}{cs:LV}{Rest:LH}[ht:TyAgg P t n][hp:PickObj L b T cs Rest](he:e=.ret∨e=.normal)(h1:env.lookup x=some (ax b))(hn:cs.length=n)(h:post (.agg cs.toArray) L):iw P N [.cell x t] post e env L :=
 ⟨he,fun _ _ _ s=>⟨[.agg cs.toArray],L,ResOk.cell h1 hn ResOk.nil,s,h⟩⟩
def KX.j0{e:Exit}{x b T n u:Nat}{t:TypeId}{cs:LV}{w:Value}{Rest:LH}[ht:TyAgg P t n][hp:PickObj L b T cs Rest](he:e=.ret∨e=.normal)(h1:env.lookup x=some (ax b))(hn:cs.length=n)(h2:env.lookup u=some w)(h:post (.tuple #[.agg cs.toArray,w]) L):iw P N [.cell x t,.tmp u] post e env L :=
 ⟨he,fun _ _ _ s=>⟨[.agg cs.toArray,w],L,ResOk.cell h1 hn (ResOk.tmp h2 ResOk.nil),s,h⟩⟩
variable {f:FuncId}{fn:Func}{c:Code}{rs:List ResultVar}{xs:Array Operand}{ats:Array TypeId}{vs:LV}
def GO.j5(he:Enters P f)(hf:P.funcs[f]? = some fn)(hb:fn.body=some c)(hr:fn.results=rs.toArray)(hN:fn.ntmps=M)(hv:fD env xs.toList=some vs)(a0 : vs.length≤M)(hd:d<N)
  (h:G P M c (env0 vs 0) L (iw P M rs (fun v L'=>GO P N ops rest ((d,v)::env) L' K))):GO P N ops (⟨some d,.call { callee:=.value (.func f),args:=xs,argTypes:=ats },ty,pos,af,none⟩::rest) env L K :=
 GO.ef (Ef.d9 (Tri.body (args:=vs) M he hf hb hr hN a0 h) hv) hd fun _ _ h=>h
def GPW.d8{done:List Nat}{plan:List Stp}{a0:List PE}{i:Nat}(he:Enters P f)(hf:P.funcs[f]? = some fn)(hb:fn.body=some c)(hr:fn.results=rs.toArray)(hN:fn.ntmps=M)(hv:fD env xs.toList=some vs)(a1 : vs.length≤M)(hd:d<N)
  (h:G P M c (env0 vs 0) L (iw P M rs (fun v L'=>GPK P N ops done i plan a0 [] ((d,v)::env) L' K))):GPW P N ops done (.ef i) plan (some d) (.call { callee:=.value (.func f),args:=xs,argTypes:=ats }) ty a0 env L K :=
 GPW.ef (Ef.d9 (Tri.body (args:=vs) M he hf hb hr hN a1 h) hv) hd fun _ _ h=>h
def Ef.c8{x:Operand}{first cap:LV}{post:Value→LH→Prop}(c:Tri P f (first++vs++cap).toArray L post)(hx:evE env x=some (.func (.func f) first.toArray cap.toArray))(hv:fD env xs.toList=some vs) :
  Ef P L env (.call { callee:=.value x,args:=xs,argTypes:=ats }) ty post:=by
 have h:=Ef.l5 (R':=[]) (ats:=ats) (ty:=ty) c hx hv (by rw[aH];exact Ent.refl _);intro θ R a w o next Q ha s h1 h2 hn
 exact h θ R a w o next Q ha s h1 h2 (fun v L' w' ⟨L₁,hp,he⟩ s'=>hn v L₁ w' hp (by rw[he,aH] at s';exact s'))
def GO.j0{x:Operand}{first cap:LV}(hx:evE env x=some (.func (.func f) first.toArray cap.toArray))(he:Enters P f)(hf:P.funcs[f]? = some fn)(hb:fn.body=some c)(hr:fn.results=rs.toArray)(hN:fn.ntmps=M)(hv:fD env xs.toList=some vs)(a0 : (first++vs++cap).length≤M)(hd:d<N)
  (h:G P M c (env0 (first++vs++cap) 0) L (iw P M rs (fun v L'=>GO P N ops rest ((d,v)::env) L' K))):GO P N ops (⟨some d,.call { callee:=.value x,args:=xs,argTypes:=ats },ty,pos,af,none⟩::rest) env L K :=
 GO.ef (Ef.c8 (Tri.body (args:=first++vs++cap) M he hf hb hr hN a0 h) hx hv) hd fun _ _ h=>h
def GPW.d7{done:List Nat}{plan:List Stp}{a0:List PE}{i:Nat}{x:Operand}{first cap:LV}(hx:evE env x=some (.func (.func f) first.toArray cap.toArray))(he:Enters P f)(hf:P.funcs[f]? = some fn)(hb:fn.body=some c)(hr:fn.results=rs.toArray)(hN:fn.ntmps=M)(hv:fD env xs.toList=some vs)(a1 : (first++vs++cap).length≤M)(hd:d<N)
  (h:G P M c (env0 (first++vs++cap) 0) L (iw P M rs (fun v L'=>GPK P N ops done i plan a0 [] ((d,v)::env) L' K))):GPW P N ops done (.ef i) plan (some d) (.call { callee:=.value x,args:=xs,argTypes:=ats }) ty a0 env L K :=
 GPW.ef (Ef.c8 (Tri.body (args:=first++vs++cap) M he hf hb hr hN a1 h) hx hv) hd fun _ _ h=>h
def GO.ci[e:En P f fn M](h:G P M c (env0 vs 0) L (iw P M rs (fun v L'=>GO P N ops rest ((d,v)::env) L' K)))(hb:fn.body=some c:=by exact rfl)(hr:fn.results=rs.toArray:=by exact rfl)(hv:fD env xs.toList=some vs:=by exact rfl)(hN' : vs.length≤M:=by simp)(hd:d<N:=by decide):GO P N ops (⟨some d,.call { callee:=.value (.func f),args:=xs,argTypes:=ats },ty,pos,af,none⟩::rest) env L K:=GO.j5 e.en e.hf hb hr e.hN hv hN' hd h
def GPW.ci{done:List Nat}{plan:List Stp}{a0:List PE}{i:Nat}[e:En P f fn M](h:G P M c (env0 vs 0) L (iw P M rs (fun v L'=>GPK P N ops done i plan a0 [] ((d,v)::env) L' K)))(hb:fn.body=some c:=by exact rfl)(hr:fn.results=rs.toArray:=by exact rfl)(hv:fD env xs.toList=some vs:=by exact rfl)(hN' : vs.length≤M:=by simp)(hd:d<N:=by decide):GPW P N ops done (.ef i) plan (some d) (.call { callee:=.value (.func f),args:=xs,argTypes:=ats }) ty a0 env L K:=GPW.d8 e.en e.hf hb hr e.hN hv hN' hd h
def GO.cf{x:Operand}{first cap:LV}(hx:evE env x=some (.func (.func f) first.toArray cap.toArray))[e:En P f fn M](h:G P M c (env0 (first++vs++cap) 0) L (iw P M rs (fun v L'=>GO P N ops rest ((d,v)::env) L' K)))(hb:fn.body=some c:=by exact rfl)(hr:fn.results=rs.toArray:=by exact rfl)(hv:fD env xs.toList=some vs:=by exact rfl)(hN' : (first++vs++cap).length≤M:=by simp)(hd:d<N:=by decide):GO P N ops (⟨some d,.call { callee:=.value x,args:=xs,argTypes:=ats },ty,pos,af,none⟩::rest) env L K:=GO.j0 hx e.en e.hf hb hr e.hN hv hN' hd h
def GPW.cf{done:List Nat}{plan:List Stp}{a0:List PE}{i:Nat}{x:Operand}{first cap:LV}(hx:evE env x=some (.func (.func f) first.toArray cap.toArray))[e:En P f fn M](h:G P M c (env0 (first++vs++cap) 0) L (iw P M rs (fun v L'=>GPK P N ops done i plan a0 [] ((d,v)::env) L' K)))(hb:fn.body=some c:=by exact rfl)(hr:fn.results=rs.toArray:=by exact rfl)(hv:fD env xs.toList=some vs:=by exact rfl)(hN' : (first++vs++cap).length≤M:=by simp)(hd:d<N:=by decide):GPW P N ops done (.ef i) plan (some d) (.call { callee:=.value x,args:=xs,argTypes:=ats }) ty a0 env L K:=GPW.d7 hx e.en e.hf hb hr e.hN hv hN' hd h
def KX.inA{φ ψ:Prop}(k:ψ)(h:Hid ψ→φ:=by intro k;(with_reducible apply KX.j5);first|refine KX.in0 (.inl rfl) (Hid.out k)|refine KX.in0 (.inr rfl) (Hid.out k)|refine KX.in1 (.inl rfl) rfl (Hid.out k)|refine KX.in2 (.inl rfl) rfl rfl (Hid.out k)|refine KX.in3 (.inl rfl) rfl rfl rfl (Hid.out k)|refine KX.inC (.inl rfl) rfl aQ (Hid.out k)|refine KX.j0 (.inl rfl) rfl aQ rfl (Hid.out k)):φ:=h ⟨k⟩
def Ef.c7{x:Operand}{first cap:LV}{post:Value→LH→Prop}(hx:evE env x=some (.func (.func f) first.toArray cap.toArray))(hv:fD env xs.toList=some vs)(c:Tri P f (first++vs++cap).toArray L post) :
  Ef P L env (.call { callee:=.value x,args:=xs,argTypes:=ats }) ty post:=Ef.c8 c hx hv
end inp
end
section
class TyArr (P:Program) (T:Nat) (n E sz:outParam Nat):Prop where
 under:P.underlying T=some (.array n E)
 size:(P.info? E).map (·.size)=some sz
def TyArr.sizeOf_run{P:Program}{T n E sz:Nat}(h:TyArr P T n E sz)(w:World):(sizeOf E).run P w=.ok sz w:=by
 have h1:=h.size;cases hi:P.info? E with
 | none=>rw[hi] at h1;cases h1
 | some i=>rw[hi] at h1;simp at h1;simp[sizeOf,typeInfo,hi,h1]
def Jg(a:Addr)(i j:Nat):(a.add i).add j=a.add (i+j):=by
 unfold Addr.add;by_cases hi:i=0
 ·subst hi;simp
 ·by_cases hj:j=0
  ·subst hj;simp[hi]
  ·have:i+j≠0:=ab;simp[hi,hj,dS]
section
variable {P:Program}{N:Nat}{env:Env}{L:LH}{ty:TypeId}{v:Value}
def Ev.o9{t:TypeId}{x i:Operand}(h:Ev P L env (.index t x i) ty v):Ev P L env (.index t x i) ty v:=h
def Ev.l6{t:TypeId}{x i:Operand}{b o n E sz:Nat}{j:Int}{k:IntKind}[ht:TyArr P t n E sz](hx:evE env x=some (.pointer (some ⟨b,o,none⟩)))(hi:evE env i=some (.int k j))(h0:0≤j)(h1:j<n) :
  Ev P L env (.indexAddr t x i) ty (.pointer (some ⟨b,o+j.toNat*sz,none⟩)) :=
 Ev.mk (fun θ R _ w ea s _ _ _ _=>by
  simp[execOp,aL ea hx,aL ea hi,Instr.indexAt,asIntOf,run_underlying ht.under,h0,h1,ht.sizeOf_run,iR,Instr.sureAddr])
def Ev.l9{t:TypeId}{x i:Operand}{ad:OA}{s' m o n E sz:Nat}{j:Int}{k:IntKind}{α:Type}{enc:α→LV}{xs:List α}[ht:TyArr P t n E sz][hr:Rds L ad α enc s' xs](hx:evE env x=some (.pointer (elP ad s' m o)))(hi:evE env i=some (.int k j))(hm:m<xs.length)(h0:0≤j)(h1:j<n) :
  Ev P L env (.indexAddr t x i) ty (.pointer (elP ad s' m (o+j.toNat*sz))) :=
 Ev.mk (fun θ R _ w ea s _ _ _ _=>by
  obtain⟨_,h2⟩:=hr.rd θ R w s;rcases h2 with h2|⟨a,rfl,_⟩
  ·subst h2;simp at hm
  ·simp[execOp,aL ea hx,aL ea hi,Instr.indexAt,asIntOf,run_underlying ht.under,h0,h1,ht.sizeOf_run,elP,Instr.sureAddr,Jg,dS])
def Dv{s:ByteArray}{i:Nat}(h:i<s.size):s[i]? = some (s.data[i]'(by simpa using h)):=by
 simp[h];rfl
def Ev.n7{t:TypeId}{x i:Operand}{s:ByteArray}{j:Int}{k:IntKind}[ht:TyStr P t](hx:evE env x=some (.string s))(hi:evE env i=some (.int k j))(h0:0≤j)(h1:j<s.size) :
  Ev P L env (.index t x i) ty (.int .u8 ((gu s)[j.toNat]!)) :=
 Ev.mk (fun θ R _ w ea st _ _ _ _=>by
  have a0:j.toNat<s.size:=ab
  have hn:(gu s)[j.toNat]! = ((s.data[j.toNat]'(by simpa using a0)).toNat:Int):=by
   rw[List.getElem!_eq_getElem?_getD,List.getElem?_eq_getElem (by rw[tA];exact a0)];simp[gu]
  rw[hn];simp[execOp,aL ea hx,aL ea hi,Instr.index,asIntOf,run_underlying ht.under,h0,Dv a0])
def Fb(s:ByteArray):∀x∈gu s,0≤x∧x≤255:=by
 intro x hx;simp only[gu,List.mem_map] at hx;obtain⟨y,_,rfl⟩:=hx;have:=y.toNat_lt
 omega
def Ev.o6{t:TypeId}{x lo hi:Operand}{s:ByteArray}{k k' : IntKind}{i j:Int}[ht:TyStr P t](hx:evE env x=some (.string s))(hl:evE env lo=some (.int k i))(hh:evE env hi=some (.int k' j))(h0:0≤i)(h1:i≤j)(h2:j≤s.size) :
  Ev P L env (.slice t x (some lo) (some hi) none) ty (.string (s.extract i.toNat j.toNat)) :=
 Ev.mk (fun θ R _ w ea st _ _ _ _=>by
  have h3:0≤j:=ab;simp[execOp,aL ea hx,aL ea hl,aL ea hh,Instr.sliceAt,Instr.slice,Instr.sliceBounds,Instr.sliceBound,asIntOf,run_underlying ht.under,h0,h2,h3];intro h;exact absurd h ab)
def AJ(s:ByteArray):s.extract 0 s.size=s:=by
 apply ByteArray.ext;simp
end
end
section
def putK:Nat→LV→LV→(LV→Option (LV))→Option (LV)
 | 0,[],z,k=>k z
 | 0,c::cs,_::z,k=>putK 0 cs z fun r=>k (c::r)
 | o+1,cs,x::z,k=>putK o cs z fun r=>k (x::r)
 | _,_,[],_=>none
def qT:∀(o:Nat) (cs z:LV) (k:LV→Option (LV)) (r:LV),putK o cs z k=some r→o+cs.length≤z.length∧k (z.take o++cs++z.drop (o+cs.length))=some r
 | 0,[],z,k,r,h=>by simpa [putK] using h
 | 0,c::cs,[],k,r,h=>by simp[putK] at h
 | 0,c::cs,_::z,k,r,h=>by
  simp only[putK] at h;have:=qT 0 cs z _ r h
  simp at this ⊢;exact this
 | o+1,cs,[],k,r,h=>by simp[putK] at h
 | o+1,cs,x::z,k,r,h=>by
  simp only[putK] at h;have:=qT o cs z _ r h
  rw[show o+1+cs.length=o+cs.length+1 by omega];simp at this ⊢;exact⟨ab,this.2⟩
def subK:Nat→Nat→LV→(LV→Option (LV))→Option (LV)
 | 0,0,_,k=>k []
 | 0,n+1,x::z,k=>subK 0 n z fun r=>k (x::r)
 | o+1,n,_::z,k=>subK o n z k
 | _,_,[],_=>none
def qP:∀(o n:Nat) (z:LV) (k:LV→Option (LV)) (r:LV),subK o n z k=some r→o+n≤z.length∧k ((z.drop o).take n)=some r
 | 0,0,z,k,r,h=>by cases z<;>simpa [subK] using h
 | 0,n+1,[],k,r,h=>by simp[subK] at h
 | 0,n+1,x::z,k,r,h=>by
  simp only[subK] at h;have:=qP 0 n z _ r h
  simp at this ⊢;exact this
 | o+1,n,[],k,r,h=>by cases n<;>simp[subK] at h
 | o+1,n,x::z,k,r,h=>by
  have h' : subK o n z k=some r:=by cases n<;>simpa only[subK] using h
  have:=qP o n z _ r h'
  rw[show o+1+n=o+n+1 by omega];simp at this ⊢;exact this
def lQ:Value→LV
 | .agg cs=>cs.toList
 | v=>[v]
def we:Value→Bool
 | .tuple _=>true
 | _=>false
def Eq(v:Value)(ht:we v=false):v.cells=(lQ v).toArray:=by
 cases v<;>simp[Value.cells,lQ,we] at ht ⊢
def qI(pl:List (Nat×Nat)):List (Nat×Value)→LV→Option (LV)
 | [],z=>some z
 | (i,v)::r,z=>match pl[i]? with
  | none=>none
  | some (off,sz)=>if we v=false∧(lQ v).length=sz then putK off (lQ v) z fun z'=>qI pl r z' else none
def Hs(off:Nat)(cs z:LV)(h:off+cs.length≤z.length):(cs.toArray.zipIdx.foldl (fun (a:Array Value) (p:Value×Nat)=>a.setIfInBounds (off+p.2) p.1) z.toArray)=(z.take off++cs++z.drop (off+cs.length)).toArray:=by
 have a0:∀(cs:LV) (k:Nat) (z:LV),off+k+cs.length≤z.length→(cs.zipIdx k).foldl (fun (a:Array Value) (p:Value×Nat)=>a.setIfInBounds (off+p.2) p.1) z.toArray=(z.take (off+k)++cs++z.drop (off+k+cs.length)).toArray:=by
  intro cs;induction cs with
  | nil=>intro k z _;simp
  | cons c cs ih =>
   intro k z hz;simp only[aM] at hz;simp only[List.zipIdx_cons,eO,List.setIfInBounds_toArray];rw[ih (k+1) (z.set (off+k) c) gJ];congr 1;rw[show off+(k+1)=off+k+1 by omega,az gJ,List.getElem_set_self,List.take_set_of_le ab,List.drop_set_of_lt ab];simp only[aB,al,ak,aM];rw[show off+k+1+cs.length=off+k+(cs.length+1) by omega]
 have:=a0 cs 0 z ab
 simpa using this
def rH(pl:List (Nat×Nat)):∀(vs:List (Nat×Value)) (z cs:LV),qI pl vs z=some cs→Instr.fill (fun i=>pl.toArray[i]?) z.toArray vs=some cs.toArray
 | [],z,cs,h=>by simp[qI] at h;simp[Instr.fill,h]
 | (i,v)::r,z,cs,h=>by
  simp only[qI] at h;cases h1:pl[i]? with
  | none=>rw[h1] at h;cases h
  | some p =>
   obtain⟨off,sz⟩:=p;rw[h1] at h;simp only at h;by_cases hc:we v=false∧(lQ v).length=sz
   ·rw[if_pos hc] at h;obtain⟨h3,h4⟩:=qT _ _ _ _ _ h;have ih:=rH pl r _ _ h4;have a1:=hc.2;simp only[Instr.fill,List.getElem?_toArray,h1,Eq v hc.1,hZ];have a0:¬(decide ((lQ v).length≠sz) || decide (off+(lQ v).length>z.length))=true:=by simp[a1];omega
    rw[if_neg a0,Hs off (lQ v) z h3];simp only[List.getElem?_toArray] at ih;exact ih
   ·rw[if_neg hc] at h;cases h
def rG{α:Type}{enc:α→LV}{sz:Nat}(e:α):∀{xs:List α} {j:Nat},(∀x∈xs,(enc x).length=sz)→j<xs.length→(xs.set j e).flatMap enc=(xs.flatMap enc).take (j*sz)++enc e++(xs.flatMap enc).drop (j*sz+sz)
 | [],j,_,h=>by simp at h
 | x::xs,0,hs,_=>by
  have hx:=hs x (av ..);simp only[fX,aO,Nat.zero_mul,aR,ak,du];rw[←hx,List.drop_left]
 | x::xs,j+1,hs,h=>by
  have hx:=hs x (av ..);have ih:=rG e (xs:=xs) (j:=j) (fun y hy=>hs y (au _ hy)) (by simpa using h);simp only[List.set_cons_succ,aO,ih];rw[show(j+1)*sz=(enc x).length+j*sz by rw[hx,fW];omega,List.take_length_add_append,dS,List.drop_length_add_append];simp only[aB]
section
variable {P:Program}{N:Nat}{env:Env}{L:LH}{ty:TypeId}{v:Value}
def Ev.t8{t:TypeId}{ps:Array (Nat×Operand)}{vs:List (Nat×Value)}{pl:List (Nat×Nat)}{z cs:LV}[hs:TyStruct P t pl][hz:ZeroT P t z](hv:kH env ps.toList=some vs)(hc:qI pl vs z=some cs):Ev P L env (.build t ps) ty (.agg cs.toArray) :=
 Ev.mk (fun θ R ρ w ea s _ _ _ _=>by
  obtain⟨z0,h1,h2⟩:=hz.run w;have he:=hs.eq;cases hu:P.underlying t with
  | none=>rw[hu] at he;cases he
  | some dsc =>
   rw[hu] at he;cases dsc<;>simp[rR] at he;rename_i fs;have hm:=nT (P:=P) (w:=w) fs.toList pl (by simpa using he)
   have a0:ps.map (fun p=>(p.1,ρ p.2))=vs.toArray:=by
    apply Array.ext';simpa using ea.pairs ps.toList vs hv
   have a1 : (fs.mapM fun (f:Field)=>do pure (f.offset,←sizeOf f.type)).run P w=.ok pl.toArray w:=by
    have e:fs=fs.toList.toArray:=by simp
    rw[e,List.mapM_toArray];simp only[Sem.run_map,hm,Result.andThen_ok]
   have hf:=rH pl vs z cs hc;simp only[execOp,a0,Instr.build,Sem.run_bind,h1,Result.andThen_ok,run_underlying hu,a1,h2];simp only[hf];simp)
def Ev.c9{t:TypeId}{x:Operand}{b o T n:Nat}{cs vs:LV}{Rest:LH}[ht:TyAgg P t n][hp:PickObj L b T cs Rest](hx:evE env x=some (.pointer (some ⟨b,o,none⟩)))(hs:subK o n cs some=some vs):Ev P L env (.load t x) ty (.agg vs.toArray) :=
 Ev.mk (fun θ R _ w ea s _ _ _ _=>by
  obtain⟨h1,h2⟩:=qP _ _ _ _ _ hs;simp only[Option.some.injEq] at h2;subst h2;have hb:=s.obj_heap hp.perm
  have hl:=run_loadCells_list (P:=P) w ⟨b,o,none⟩ ((cs.drop o).take n) (fun j v hv=>by
   have hj:j<n:=by have:=(List.getElem?_eq_some_iff.1 hv).1;simp at this;omega
   rw[iR,eD hb];simp[hj] at hv ⊢;exact hv)
  have a0:((cs.drop o).take n).length=n:=by simp;omega
  rw[a0] at hl;simp[execOp,aL ea hx,Instr.loadAt,Instr.sureAddr,loadVar,ht.run,TyAgg.sizeOf_run,hl])
def Ef.g8{t:TypeId}{x y:Operand}{b o T n:Nat}{cs vs a0 : LV}{Rest:LH}[ht:TyAgg P t n][hp:PickObj L b T cs Rest](hx:evE env x=some (.pointer (some ⟨b,o,none⟩)))(hy:evE env y=some (.agg vs.toArray))(hn:vs.length=n)(hs:putK o vs cs some=some a0)(h1:∀v∈vs,v.oneCell' = true)
  : Ef P L env (.store t x y) ty (fun _ L'=>L' = obj b T a0::Rest) :=
 Ef.skip (fun θ R a w ea s a2 pos af g=>by
  obtain⟨h2,h3⟩:=qT _ _ _ _ _ hs;simp only[Option.some.injEq] at h3;subst h3;have s1:=s.perm (hp.perm.append_right R);have hb:w.heap[b]? = some (.cells cs.toArray T (0,0)):=s1.own_heap;have a1:=run_storeCells_at P b o T vs 0 cs.toArray w hb gJ h1;refine⟨w.setRow b (cs.take o++vs++cs.drop (o+vs.length)).toArray,_,?_,rfl,?_⟩
  ·simp[execOp,aL ea hx,aL ea hy,Instr.storeAt,Instr.sureAddr,storeVar,TyAgg.sizeOf_run,Value.cells,hn] at a1 ⊢;rw[a1];simp
  ·exact Sat.update s1 ⟨s.1.tape,s.1.os,s.1.output,s.1.drawn⟩ (setRow_heap w b _ _ T _ hb) (fun j x hj hx=>by rw[setRow_other w b j _ hj];exact hx))
def Ev.m7{t:TypeId}{x:Operand}{b m sz j o:Nat}{α:Type}[Inhabited α]{enc:α→LV}{xs:List α}[ht:TyOne P t][hr:Rds L (some ⟨b,0,none⟩) α enc sz xs]
  (hx:evE env x=some (.pointer (some ⟨b,m,none⟩))) (hm:m=j*sz+o) (hj:j<xs.length) (ho:o<sz) (hv:(enc xs[j]!)[o]? = some v):Ev P L env (.load t x) ty v:=by
 refine Ev.f7 (ad:=some ⟨b,0,none⟩) (sz:=sz) (j:=j) (o:=o) ?_ hj ho hv;rw[hx,hm];simp only[elP,eK,fZ]
def Ef.f8{t:TypeId}{x y:Operand}{ad:OA}{sz j E cap:Nat}{α:Type}[Inhabited α]{enc:α→LV}{xs:List α}{Rest:LH}{vs:LV}(e:α)[ht:TyAgg P t sz][hp:PickOsl L ad α enc sz E cap xs Rest]
  (hx:evE env x=some (.pointer (elP ad sz j 0))) (hy:evE env y=some (.agg vs.toArray)) (he:enc e=vs) (hn:vs.length=sz) (h1:∀v∈vs,v.oneCell' = true) (hj:j<xs.length) :
  Ef P L env (.store t x y) ty (fun _ L'=>L' = osl enc sz E ad cap (xs.set j e)::Rest) :=
 Ef.skip (fun θ R ρ w ea s b0 pos af g=>by
  have s1:=s.perm (hp.perm.append_right R);obtain⟨p1,p2,p3,p4⟩:=Sat.osl_parts s1;rcases p4 with⟨rfl,rfl⟩|⟨gb,a0,rfl,f1,f2,f3⟩
  ·omega
  ·have hb:w.heap[gb]? = some (.cells a0 E (0,0)):=f3.own_heap;have a1:(j+1)*sz≤xs.length*sz:=bj _ hj;rw[fW] at a1;have a4:=bj sz p2;have a2:=run_storeCells_at P gb (j*sz) E vs 0 a0 w hb ab h1
   have a5:∀y∈xs.set j e,(enc y).length=sz:=by
    intro y a9;rcases dj a9 with h|h
    ·exact p1 y h
    ·subst h;rw[he];exact hn
   have a7 : evE env x=some (.pointer (some ⟨gb,j*sz,none⟩)):=by rw[hx];simp only[elP,eK,fZ,eA]
   refine⟨w.setRow gb (a0.toList.take (j*sz)++vs++a0.toList.drop (j*sz+sz)).toArray,_,?_,rfl,?_⟩
   ·simp[execOp,aL ea a7,aL ea hy,Instr.storeAt,Instr.sureAddr,storeVar,TyAgg.sizeOf_run,Value.cells,hn] at a2 ⊢;rw[a2];simp
   ·have s3:Sat θ (own gb (.cells (a0.toList.take (j*sz)++vs++a0.toList.drop (j*sz+sz)).toArray E (0,0))::(Rest++R)) (w.setRow gb (a0.toList.take (j*sz)++vs++a0.toList.drop (j*sz+sz)).toArray) :=
     Sat.update f3 ⟨s.1.tape,s.1.os,s.1.output,s.1.drawn⟩ (setRow_heap w gb _ _ E _ hb) (fun k x hk hx=>by rw[setRow_other w gb k _ hk];exact hx)
    refine Sat.osl_mk (L:=Rest++R) s3 a5 (by simpa using p2) p3 ?_ ?_
    ·simp[hn];omega
    ·have a6:(a0.toList.take (j*sz)).length=j*sz:=by simp;omega
     rw[rG e p1 hj,←f2,he,bH,List.take_take,dp ab,List.drop_take];simp only;have a3:(a0.toList.take (j*sz)++vs).length=j*sz+sz:=by rw[aj,a6,hn]
     rw[List.take_append,a3,aD (l:=a0.toList.take (j*sz)++vs) ab])
def uH{α:Type}{enc:α→LV}{z:Array Value}{e:α}(he:enc e=z.toList)(hz:0<z.size)(n:Nat):((List.replicate n e).flatMap enc).toArray=madeCells z (n*z.size):=by
 apply Array.ext
 ·simp[madeCells,dm (enc:=enc) (sz:=z.size) (xs:=List.replicate n e) (fun x hx=>by rw[fM hx,he];simp)]
 ·intro i h1 h2;simp only[madeCells,Array.getElem_map,Array.getElem_range]
  have a0:((List.replicate n e).flatMap enc).length=n*z.size:=by
   have:=dm (enc:=enc) (sz:=z.size) (xs:=List.replicate n e) (fun x hx=>by rw[fM hx,he];simp)
   simpa using this
  have hi:i<n*z.size:=by simpa [a0] using h1
  have hq:i / z.size<n:=(eM hz).2 hi;have hr:=dU i hz;have hd:=fO i z.size;haveI:Inhabited α:=⟨e⟩
  have:=mX (enc:=enc) (sz:=z.size) (xs:=List.replicate n e) (fun x hx=>by rw[fM hx,he];simp) (j:=i / z.size) (o:=i % z.size) (by simpa using hq) hr
  rw[show i / z.size*z.size+i % z.size=i by rw[ft];exact hd] at this;rw[List.getElem!_eq_getElem?_getD,List.getElem?_replicate,if_pos hq] at this;simp only[Option.getD_some,he] at this;rw[List.getElem?_eq_getElem ab] at this;simp only[Array.getElem?_toList,Array.getElem?_eq_getElem hr,Option.some.injEq] at this;simp only[List.getElem_toArray,this];rw[getElem!_pos z (i % z.size) hr]
def Ef.f9{t:TypeId}{x y:Operand}{E sz bb:Nat}{z:LV}{α:Type}(enc:α→LV)(e:α){n c:Int}[ht:TySl P t E sz bb z](hx:evE env x=some (ac n))(hy:evE env y=some (ac c))(he:enc e=z)(h0:0≤n)(hc:n≤c)(h1:c*bb≤16777216)(h2:c≤1000000000) :
  Ef P L env (.makeSlice t x y) ty (fun v L'=>∃b,v=.slice (some ⟨b,0,none⟩) n.toNat c.toNat∧L' = osl enc sz E (some ⟨b,0,none⟩) c.toNat (List.replicate n.toNat e)::L) :=
 Ef.val (fun θ R a w ea s a3 pos af g=>by
  obtain⟨ii,zz,i1,i2,i3,i4,i5⟩:=ht.parts;have a2:zz.cells.size=sz:=by rw[←ep,i3];exact ht.zlen
  have a1:=ht.pos;have hk:=run_make (P:=P) w t E ii zz ht.under i1 i2 .i64 .i64 n c h0 hc (by rw[i5,Int.mul_comm];omega) ab;rw[i4,←a2,←uH (enc:=enc) (e:=e) (by rw[he,i3]) ab] at hk;refine⟨.slice (some ⟨w.heap.size,0,none⟩) n.toNat c.toNat,w.alloc (.cells ((List.replicate c.toNat e).flatMap enc).toArray E),_,by simp[execOp,aL ea hx,aL ea hy,hk],⟨_,rfl,rfl⟩,?_⟩;have s1:=s.alloc (o:=.cells ((List.replicate c.toNat e).flatMap enc).toArray E);have a0:∀(k:Nat),∀x∈List.replicate k e,(enc x).length=sz:=fun k x hx=>by rw[fM hx,he];exact ht.zlen
  refine Sat.osl_mk (enc:=enc) (sz:=sz) (cap:=c.toNat) (xs:=List.replicate n.toNat e) (L:=L++R) s1 (a0 _) gJ (by simp only[maxLen];omega) ?_ ?_
  ·simp only[hZ];rw[dm (a0 _),List.length_replicate]
  ·have e1:List.replicate c.toNat e=List.replicate n.toNat e++List.replicate (c.toNat - n.toNat) e:=by
    rw[List.replicate_append_replicate];congr 1;omega
   rw[e1,cl];simp only;rw[List.take_append_of_le_length (by rw[dm (a0 _)];exact aq _),aD (by rw[dm (a0 _)];exact aq _)])
end
end
end Go.V
namespace Go.Proofs.YtlgpgjdggilkgaaGreatDoor
open Go.V
instance:TyOne Tryz.prog 3:=⟨fun _=>krStd0,krStd0⟩
instance:TyInt Tryz.prog 3 .i64:=⟨krStd0⟩
instance:ZeroT Tryz.prog 3 [ac 0]:=⟨krStd0⟩
instance:TyOne Tryz.prog 4:=⟨fun _=>krStd0,krStd0⟩
instance:ZeroT Tryz.prog 4 [.bool false]:=⟨krStd0⟩
instance:TyOne Tryz.prog 5:=⟨fun _=>krStd0,krStd0⟩
instance:TyInt Tryz.prog 5 .u8:=⟨krStd0⟩
instance:TyOne Tryz.prog 9:=⟨fun _=>krStd0,krStd0⟩
instance:TyStr Tryz.prog 9:=⟨krStd0⟩
instance:TyOne Tryz.prog 22:=⟨fun _=>krStd0,krStd0⟩
instance:TySl Tryz.prog 22 3 1 8 [ac 0]:=⟨krStd0,krStd0,by decide,by decide⟩
instance:ZeroT Tryz.prog 22 [ag none 0 0]:=⟨krStd0⟩
instance:TySl Tryz.prog 27 34 5 56 [ac 0,ac 0,ac 0,ag none 0 0,ac 0]:=⟨krStd0,krStd0,by decide,by decide⟩
instance:TyOne Tryz.prog 29:=⟨fun _=>krStd0,krStd0⟩
instance:ZeroT Tryz.prog 29 [ac 0]:=⟨krStd0⟩
instance:TyOne Tryz.prog 32:=⟨fun _=>krStd0,krStd0⟩
instance:TySl Tryz.prog 32 65 5 56 [ac 0,ac 0,ac 0,ac 0,ag none 0 0]:=⟨krStd0,krStd0,by decide,by decide⟩
instance:TyAgg Tryz.prog 34 5:=⟨fun _=>krStd0,krStd0⟩
instance:Fld Tryz.prog 34 0 0:=Fld.of 0 krStd0
instance:Fld Tryz.prog 34 1 1:=Fld.of 0 krStd0
instance:Fld Tryz.prog 34 2 2:=Fld.of 0 krStd0
instance:Fld Tryz.prog 34 3 3:=Fld.of 0 krStd0
instance:Fld Tryz.prog 34 4 4:=Fld.of 0 krStd0
instance:TyStruct Tryz.prog 34 [(0,1),(1,1),(2,1),(3,1),(4,1)]:=⟨krStd0⟩
instance:ZeroT Tryz.prog 34 [ac 0,ac 0,ac 0,ag none 0 0,ac 0]:=⟨krStd0⟩
instance:TyOne Tryz.prog 35:=⟨fun _=>krStd0,krStd0⟩
instance:TySl Tryz.prog 35 47 3 24 [ac 0,ac 0,ac 0]:=⟨krStd0,krStd0,by decide,by decide⟩
instance:ZeroT Tryz.prog 35 [ag none 0 0]:=⟨krStd0⟩
instance:TyOne Tryz.prog 36:=⟨fun _=>krStd0,krStd0⟩
instance:TySl Tryz.prog 36 45 11 120 [ac 0,ac 0,ac 0,ac 0,ac 0,ac 0,ac 0,ac 0,ac 0,ag none 0 0,ag none 0 0]:=⟨krStd0,krStd0,by decide,by decide⟩
instance:TyOne Tryz.prog 37:=⟨fun _=>krStd0,krStd0⟩
instance:TyPtr Tryz.prog 37:=⟨⟨130,krStd0⟩⟩
instance:TyOne Tryz.prog 38:=⟨fun _=>krStd0,krStd0⟩
instance:TySl Tryz.prog 38 37 1 8 [.pointer none]:=⟨krStd0,krStd0,by decide,by decide⟩
instance:TyOne Tryz.prog 39:=⟨fun _=>krStd0,krStd0⟩
instance:TySl Tryz.prog 39 62 1 8 [.pointer none]:=⟨krStd0,krStd0,by decide,by decide⟩
instance:TyOne Tryz.prog 40:=⟨fun _=>krStd0,krStd0⟩
instance:TySl Tryz.prog 40 98 3 40 [ac 0,ac 0,ag none 0 0]:=⟨krStd0,krStd0,by decide,by decide⟩
instance:ZeroT Tryz.prog 40 [ag none 0 0]:=⟨krStd0⟩
instance:Fld Tryz.prog 42 0 0:=Fld.of 0 krStd0
instance:Fld Tryz.prog 42 1 1:=Fld.of 0 krStd0
instance:Fld Tryz.prog 42 2 2:=Fld.of 0 krStd0
instance:Fld Tryz.prog 42 3 3:=Fld.of 0 krStd0
instance:Fld Tryz.prog 42 4 4:=Fld.of 0 krStd0
instance:TyStruct Tryz.prog 42 [(0,1),(1,1),(2,1),(3,1),(4,1)]:=⟨krStd0⟩
instance:ZeroT Tryz.prog 42 [ag none 0 0,ag none 0 0,ag none 0 0,ac 0,ag none 0 0]:=⟨krStd0⟩
instance:TyAgg Tryz.prog 45 11:=⟨fun _=>krStd0,krStd0⟩
instance:Fld Tryz.prog 45 0 0:=Fld.of 0 krStd0
instance:Fld Tryz.prog 45 2 2:=Fld.of 0 krStd0
instance:Fld Tryz.prog 45 6 6:=Fld.of 0 krStd0
instance:Fld Tryz.prog 45 7 7:=Fld.of 0 krStd0
instance:Fld Tryz.prog 45 8 8:=Fld.of 0 krStd0
instance:Fld Tryz.prog 45 9 9:=Fld.of 0 krStd0
instance:Fld Tryz.prog 45 10 10:=Fld.of 0 krStd0
instance:TyStruct Tryz.prog 45 [(0,1),(1,1),(2,1),(3,1),(4,1),(5,1),(6,1),(7,1),(8,1),(9,1),(10,1)]:=⟨krStd0⟩
instance:ZeroT Tryz.prog 45 [ac 0,ac 0,ac 0,ac 0,ac 0,ac 0,ac 0,ac 0,ac 0,ag none 0 0,ag none 0 0]:=⟨krStd0⟩
instance:TyAgg Tryz.prog 47 3:=⟨fun _=>krStd0,krStd0⟩
instance:Fld Tryz.prog 47 0 0:=Fld.of 0 krStd0
instance:Fld Tryz.prog 47 1 1:=Fld.of 0 krStd0
instance:Fld Tryz.prog 47 2 2:=Fld.of 0 krStd0
instance:TyStruct Tryz.prog 47 [(0,1),(1,1),(2,1)]:=⟨krStd0⟩
instance:ZeroT Tryz.prog 47 [ac 0,ac 0,ac 0]:=⟨krStd0⟩
instance:TyOne Tryz.prog 48:=⟨fun _=>krStd0,krStd0⟩
instance:TyInt Tryz.prog 61 .u64:=⟨krStd0⟩
instance:TyOne Tryz.prog 62:=⟨fun _=>krStd0,krStd0⟩
instance:TyPtr Tryz.prog 62:=⟨⟨147,krStd0⟩⟩
instance:TyOne Tryz.prog 63:=⟨fun _=>krStd0,krStd0⟩
instance:TySl Tryz.prog 63 67 2 16 [ac 0,ac 0]:=⟨krStd0,krStd0,by decide,by decide⟩
instance:TyAgg Tryz.prog 65 5:=⟨fun _=>krStd0,krStd0⟩
instance:Fld Tryz.prog 65 0 0:=Fld.of 0 krStd0
instance:Fld Tryz.prog 65 1 1:=Fld.of 0 krStd0
instance:Fld Tryz.prog 65 2 2:=Fld.of 0 krStd0
instance:Fld Tryz.prog 65 3 3:=Fld.of 0 krStd0
instance:Fld Tryz.prog 65 4 4:=Fld.of 0 krStd0
instance:TyStruct Tryz.prog 65 [(0,1),(1,1),(2,1),(3,1),(4,1)]:=⟨krStd0⟩
instance:ZeroT Tryz.prog 65 [ac 0,ac 0,ac 0,ac 0,ag none 0 0]:=⟨krStd0⟩
instance:TyAgg Tryz.prog 67 2:=⟨fun _=>krStd0,krStd0⟩
instance:Fld Tryz.prog 67 0 0:=Fld.of 0 krStd0
instance:Fld Tryz.prog 67 1 1:=Fld.of 0 krStd0
instance:TyStruct Tryz.prog 67 [(0,1),(1,1)]:=⟨krStd0⟩
instance:ZeroT Tryz.prog 67 [ac 0,ac 0]:=⟨krStd0⟩
instance:TyOne Tryz.prog 85:=⟨fun _=>krStd0,krStd0⟩
instance:TySl Tryz.prog 85 134 5 56 [ac 0,ac 0,ac 0,ac 0,ag none 0 0]:=⟨krStd0,krStd0,by decide,by decide⟩
instance:TyAgg Tryz.prog 87 7:=⟨fun _=>krStd0,krStd0⟩
instance:Fld Tryz.prog 87 0 0:=Fld.of 0 krStd0
instance:Fld Tryz.prog 87 1 1:=Fld.of 0 krStd0
instance:Fld Tryz.prog 87 2 2:=Fld.of 0 krStd0
instance:Fld Tryz.prog 87 3 3:=Fld.of 0 krStd0
instance:Fld Tryz.prog 87 4 4:=Fld.of 0 krStd0
instance:Fld Tryz.prog 87 5 5:=Fld.of 0 krStd0
instance:Fld Tryz.prog 87 6 6:=Fld.of 0 krStd0
instance:TyStruct Tryz.prog 87 [(0,1),(1,1),(2,1),(3,1),(4,1),(5,1),(6,1)]:=⟨krStd0⟩
instance:ZeroT Tryz.prog 87 [ac 0,ac 0,ac 0,ac 0,ac 0,ac 0,ag none 0 0]:=⟨krStd0⟩
instance:TyOne Tryz.prog 89:=⟨fun _=>krStd0,krStd0⟩
instance:TySl Tryz.prog 89 135 5 56 [ac 0,ac 0,ac 0,ac 0,ag none 0 0]:=⟨krStd0,krStd0,by decide,by decide⟩
instance:TyOne Tryz.prog 96:=⟨fun _=>krStd0,krStd0⟩
instance:TySl Tryz.prog 96 5 1 1 [.int .u8 0]:=⟨krStd0,krStd0,by decide,by decide⟩
instance:TyAgg Tryz.prog 98 3:=⟨fun _=>krStd0,krStd0⟩
instance:Fld Tryz.prog 98 0 0:=Fld.of 0 krStd0
instance:Fld Tryz.prog 98 1 1:=Fld.of 0 krStd0
instance:Fld Tryz.prog 98 2 2:=Fld.of 0 krStd0
instance:TyStruct Tryz.prog 98 [(0,1),(1,1),(2,1)]:=⟨krStd0⟩
instance:ZeroT Tryz.prog 98 [ac 0,ac 0,ag none 0 0]:=⟨krStd0⟩
instance:TyOne Tryz.prog 111:=⟨fun _=>krStd0,krStd0⟩
instance:TySl Tryz.prog 111 214 7 48 [.string ⟨#[]⟩,.bool false,.bool false,.bool false,ac 0,ac 0,ac 0]:=⟨krStd0,krStd0,by decide,by decide⟩
instance:TyOne Tryz.prog 112:=⟨fun _=>krStd0,krStd0⟩
instance:TySl Tryz.prog 112 267 9 128 [.string ⟨#[]⟩,.bool false,ac 0,ac 0,ac 0,ac 0,ag none 0 0,ag none 0 0,ag none 0 0]:=⟨krStd0,krStd0,by decide,by decide⟩
instance:TyOne Tryz.prog 113:=⟨fun _=>krStd0,krStd0⟩
instance:TySl Tryz.prog 113 272 2 40 [.string ⟨#[]⟩,ag none 0 0]:=⟨krStd0,krStd0,by decide,by decide⟩
instance:TyOne Tryz.prog 114:=⟨fun _=>krStd0,krStd0⟩
instance:TySl Tryz.prog 114 277 2 40 [.string ⟨#[]⟩,ag none 0 0]:=⟨krStd0,krStd0,by decide,by decide⟩
instance:TyAgg Tryz.prog 116 4:=⟨fun _=>krStd0,krStd0⟩
instance:Fld Tryz.prog 116 0 0:=Fld.of 0 krStd0
instance:Fld Tryz.prog 116 1 1:=Fld.of 0 krStd0
instance:Fld Tryz.prog 116 2 2:=Fld.of 0 krStd0
instance:Fld Tryz.prog 116 3 3:=Fld.of 0 krStd0
instance:TyStruct Tryz.prog 116 [(0,1),(1,1),(2,1),(3,1)]:=⟨krStd0⟩
instance:ZeroT Tryz.prog 116 [ag none 0 0,ag none 0 0,ag none 0 0,ag none 0 0]:=⟨krStd0⟩
instance:TyOne Tryz.prog 118:=⟨fun _=>krStd0,krStd0⟩
instance:TySl Tryz.prog 118 87 7 72 [ac 0,ac 0,ac 0,ac 0,ac 0,ac 0,ag none 0 0]:=⟨krStd0,krStd0,by decide,by decide⟩
instance:TyOne Tryz.prog 126:=⟨fun _=>krStd0,krStd0⟩
instance:TyOne Tryz.prog 127:=⟨fun _=>krStd0,krStd0⟩
instance:TyOne Tryz.prog 128:=⟨fun _=>krStd0,krStd0⟩
instance:Fld Tryz.prog 130 0 0:=Fld.of 0 krStd0
instance:Fld Tryz.prog 130 1 1:=Fld.of 3 krStd0
instance:Fld Tryz.prog 130 2 5:=Fld.of 0 krStd0
instance:Fld Tryz.prog 130 3 6:=Fld.of 0 krStd0
instance:Fld Tryz.prog 130 4 7:=Fld.of 0 krStd0
instance:Fld Tryz.prog 130 5 8:=Fld.of 0 krStd0
instance:Fld Tryz.prog 130 6 9:=Fld.of 0 krStd0
instance:Fld Tryz.prog 130 7 10:=Fld.of 0 krStd0
instance:TyStruct Tryz.prog 130 [(0,1),(1,4),(5,1),(6,1),(7,1),(8,1),(9,1),(10,1)]:=⟨krStd0⟩
instance:ZeroT Tryz.prog 130 [ac 0,ag none 0 0,ag none 0 0,ag none 0 0,ag none 0 0,.map none,.map none,ag none 0 0,ag none 0 0,.map none,.map none]:=⟨krStd0⟩
instance:TyAgg Tryz.prog 134 5:=⟨fun _=>krStd0,krStd0⟩
instance:Fld Tryz.prog 134 0 0:=Fld.of 0 krStd0
instance:Fld Tryz.prog 134 1 1:=Fld.of 0 krStd0
instance:Fld Tryz.prog 134 2 2:=Fld.of 0 krStd0
instance:Fld Tryz.prog 134 3 3:=Fld.of 0 krStd0
instance:Fld Tryz.prog 134 4 4:=Fld.of 0 krStd0
instance:TyStruct Tryz.prog 134 [(0,1),(1,1),(2,1),(3,1),(4,1)]:=⟨krStd0⟩
instance:ZeroT Tryz.prog 134 [ac 0,ac 0,ac 0,ac 0,ag none 0 0]:=⟨krStd0⟩
instance:TyAgg Tryz.prog 135 5:=⟨fun _=>krStd0,krStd0⟩
instance:Fld Tryz.prog 135 0 0:=Fld.of 0 krStd0
instance:Fld Tryz.prog 135 1 1:=Fld.of 0 krStd0
instance:Fld Tryz.prog 135 2 2:=Fld.of 0 krStd0
instance:Fld Tryz.prog 135 3 3:=Fld.of 0 krStd0
instance:Fld Tryz.prog 135 4 4:=Fld.of 0 krStd0
instance:TyStruct Tryz.prog 135 [(0,1),(1,1),(2,1),(3,1),(4,1)]:=⟨krStd0⟩
instance:ZeroT Tryz.prog 135 [ac 0,ac 0,ac 0,ac 0,ag none 0 0]:=⟨krStd0⟩
instance:TyAgg Tryz.prog 137 2:=⟨fun _=>krStd0,krStd0⟩
instance:TyStruct Tryz.prog 137 [(0,1),(1,1)]:=⟨krStd0⟩
instance:ZeroT Tryz.prog 137 [ac 0,ac 0]:=⟨krStd0⟩
instance:TyPtr Tryz.prog 141:=⟨⟨150,krStd0⟩⟩
instance:TyOne Tryz.prog 143:=⟨fun _=>krStd0,krStd0⟩
instance:TyOne Tryz.prog 144:=⟨fun _=>krStd0,krStd0⟩
instance:TyOne Tryz.prog 145:=⟨fun _=>krStd0,krStd0⟩
instance:Fld Tryz.prog 147 0 0:=Fld.of 0 krStd0
instance:Fld Tryz.prog 147 1 1:=Fld.of 0 krStd0
instance:Fld Tryz.prog 147 2 2:=Fld.of 0 krStd0
instance:Fld Tryz.prog 147 3 3:=Fld.of 0 krStd0
instance:Fld Tryz.prog 147 4 4:=Fld.of 0 krStd0
instance:Fld Tryz.prog 147 5 5:=Fld.of 0 krStd0
instance:Fld Tryz.prog 147 6 6:=Fld.of 0 krStd0
instance:Fld Tryz.prog 147 7 7:=Fld.of 0 krStd0
instance:TyStruct Tryz.prog 147 [(0,1),(1,1),(2,1),(3,1),(4,1),(5,1),(6,1),(7,1)]:=⟨krStd0⟩
instance:ZeroT Tryz.prog 147 [.pointer none,ac 0,ac 0,ac 0,ac 0,.map none,.map none,.map none]:=⟨krStd0⟩
instance:TyOne Tryz.prog 148:=⟨fun _=>krStd0,krStd0⟩
instance:Fld Tryz.prog 150 0 0:=Fld.of 0 krStd0
instance:Fld Tryz.prog 150 1 1:=Fld.of 0 krStd0
instance:Fld Tryz.prog 150 2 2:=Fld.of 0 krStd0
instance:Fld Tryz.prog 150 3 3:=Fld.of 0 krStd0
instance:Fld Tryz.prog 150 4 4:=Fld.of 0 krStd0
instance:Fld Tryz.prog 150 5 5:=Fld.of 0 krStd0
instance:Fld Tryz.prog 150 6 6:=Fld.of 0 krStd0
instance:TyStruct Tryz.prog 150 [(0,1),(1,1),(2,1),(3,1),(4,1),(5,1),(6,1)]:=⟨krStd0⟩
instance:ZeroT Tryz.prog 150 [ag none 0 0,ag none 0 0,ac 0,.map none,.map none,.bool false,.bool false]:=⟨krStd0⟩
instance:TyOne Tryz.prog 153:=⟨fun _=>krStd0,krStd0⟩
instance:TySl Tryz.prog 153 197 8 96 [ac 0,ac 0,ac 0,ac 0,ag none 0 0,ac 0,ac 0,ag none 0 0]:=⟨krStd0,krStd0,by decide,by decide⟩
instance:Fld Tryz.prog 155 0 0:=Fld.of 0 krStd0
instance:Fld Tryz.prog 155 1 1:=Fld.of 0 krStd0
instance:Fld Tryz.prog 155 2 2:=Fld.of 0 krStd0
instance:TyStruct Tryz.prog 155 [(0,1),(1,1),(2,1)]:=⟨krStd0⟩
instance:ZeroT Tryz.prog 155 [ac 0,ac 0,ag none 0 0]:=⟨krStd0⟩
instance:TyAgg Tryz.prog 157 2:=⟨fun _=>krStd0,krStd0⟩
instance:Fld Tryz.prog 157 0 0:=Fld.of 0 krStd0
instance:TyStruct Tryz.prog 157 [(0,1),(1,1)]:=⟨krStd0⟩
instance:ZeroT Tryz.prog 157 [ac 0,ac 0]:=⟨krStd0⟩
instance:TyOne Tryz.prog 159:=⟨fun _=>krStd0,krStd0⟩
instance:Fld Tryz.prog 178 0 0:=Fld.of 0 krStd0
instance:Fld Tryz.prog 178 1 1:=Fld.of 6 krStd0
instance:Fld Tryz.prog 178 2 8:=Fld.of 0 krStd0
instance:Fld Tryz.prog 178 3 9:=Fld.of 0 krStd0
instance:Fld Tryz.prog 178 4 10:=Fld.of 0 krStd0
instance:Fld Tryz.prog 178 5 11:=Fld.of 0 krStd0
instance:Fld Tryz.prog 178 6 12:=Fld.of 0 krStd0
instance:Fld Tryz.prog 178 7 13:=Fld.of 0 krStd0
instance:TyStruct Tryz.prog 178 [(0,1),(1,7),(8,1),(9,1),(10,1),(11,1),(12,1),(13,1)]:=⟨krStd0⟩
instance:ZeroT Tryz.prog 178 [.pointer none,ac 0,ac 0,ac 0,ac 0,ac 0,ac 0,ag none 0 0,.map none,.map none,.map none,.map none,ag none 0 0,ag none 0 0]:=⟨krStd0⟩
instance:TyAgg Tryz.prog 197 8:=⟨fun _=>krStd0,krStd0⟩
instance:Fld Tryz.prog 197 0 0:=Fld.of 4 krStd0
instance:Fld Tryz.prog 197 1 5:=Fld.of 0 krStd0
instance:Fld Tryz.prog 197 2 6:=Fld.of 0 krStd0
instance:Fld Tryz.prog 197 3 7:=Fld.of 0 krStd0
instance:TyStruct Tryz.prog 197 [(0,5),(5,1),(6,1),(7,1)]:=⟨krStd0⟩
instance:ZeroT Tryz.prog 197 [ac 0,ac 0,ac 0,ac 0,ag none 0 0,ac 0,ac 0,ag none 0 0]:=⟨krStd0⟩
instance:TyOne Tryz.prog 202:=⟨fun _=>krStd0,krStd0⟩
instance:TySl Tryz.prog 202 293 1 8 [.int .u64 0]:=⟨krStd0,krStd0,by decide,by decide⟩
instance:ZeroT Tryz.prog 202 [ag none 0 0]:=⟨krStd0⟩
instance:TyAgg Tryz.prog 214 7:=⟨fun _=>krStd0,krStd0⟩
instance:Fld Tryz.prog 214 0 0:=Fld.of 0 krStd0
instance:Fld Tryz.prog 214 1 1:=Fld.of 0 krStd0
instance:Fld Tryz.prog 214 2 2:=Fld.of 0 krStd0
instance:Fld Tryz.prog 214 3 3:=Fld.of 0 krStd0
instance:Fld Tryz.prog 214 4 4:=Fld.of 0 krStd0
instance:Fld Tryz.prog 214 5 5:=Fld.of 0 krStd0
instance:Fld Tryz.prog 214 6 6:=Fld.of 0 krStd0
instance:TyStruct Tryz.prog 214 [(0,1),(1,1),(2,1),(3,1),(4,1),(5,1),(6,1)]:=⟨krStd0⟩
instance:ZeroT Tryz.prog 214 [.string ⟨#[]⟩,.bool false,.bool false,.bool false,ac 0,ac 0,ac 0]:=⟨krStd0⟩
instance:TyAgg Tryz.prog 222 6:=⟨fun _=>krStd0,krStd0⟩
instance:Fld Tryz.prog 222 0 0:=Fld.of 0 krStd0
instance:Fld Tryz.prog 222 1 1:=Fld.of 0 krStd0
instance:Fld Tryz.prog 222 2 2:=Fld.of 0 krStd0
instance:Fld Tryz.prog 222 3 3:=Fld.of 0 krStd0
instance:Fld Tryz.prog 222 4 4:=Fld.of 0 krStd0
instance:Fld Tryz.prog 222 5 5:=Fld.of 0 krStd0
instance:TyStruct Tryz.prog 222 [(0,1),(1,1),(2,1),(3,1),(4,1),(5,1)]:=⟨krStd0⟩
instance:ZeroT Tryz.prog 222 [ac 0,ac 0,ac 0,.bool false,ag none 0 0,ag none 0 0]:=⟨krStd0⟩
instance:TyOne Tryz.prog 248:=⟨fun _=>krStd0,krStd0⟩
instance:ZeroT Tryz.prog 248 [.nilFunc]:=⟨krStd0⟩
instance:TyAgg Tryz.prog 267 9:=⟨fun _=>krStd0,krStd0⟩
instance:Fld Tryz.prog 267 0 0:=Fld.of 0 krStd0
instance:Fld Tryz.prog 267 1 1:=Fld.of 0 krStd0
instance:Fld Tryz.prog 267 2 2:=Fld.of 0 krStd0
instance:Fld Tryz.prog 267 3 3:=Fld.of 0 krStd0
instance:Fld Tryz.prog 267 4 4:=Fld.of 0 krStd0
instance:Fld Tryz.prog 267 5 5:=Fld.of 0 krStd0
instance:Fld Tryz.prog 267 6 6:=Fld.of 0 krStd0
instance:Fld Tryz.prog 267 7 7:=Fld.of 0 krStd0
instance:Fld Tryz.prog 267 8 8:=Fld.of 0 krStd0
instance:ZeroT Tryz.prog 267 [.string ⟨#[]⟩,.bool false,ac 0,ac 0,ac 0,ac 0,ag none 0 0,ag none 0 0,ag none 0 0]:=⟨krStd0⟩
instance:TyOne Tryz.prog 270:=⟨fun _=>krStd0,krStd0⟩
instance:TySl Tryz.prog 270 334 2 32 [ac 0,ag none 0 0]:=⟨krStd0,krStd0,by decide,by decide⟩
instance:TyAgg Tryz.prog 272 2:=⟨fun _=>krStd0,krStd0⟩
instance:Fld Tryz.prog 272 0 0:=Fld.of 0 krStd0
instance:Fld Tryz.prog 272 1 1:=Fld.of 0 krStd0
instance:ZeroT Tryz.prog 272 [.string ⟨#[]⟩,ag none 0 0]:=⟨krStd0⟩
instance:TyOne Tryz.prog 275:=⟨fun _=>krStd0,krStd0⟩
instance:TySl Tryz.prog 275 342 2 16 [ac 0,ac 0]:=⟨krStd0,krStd0,by decide,by decide⟩
instance:TyAgg Tryz.prog 277 2:=⟨fun _=>krStd0,krStd0⟩
instance:Fld Tryz.prog 277 0 0:=Fld.of 0 krStd0
instance:Fld Tryz.prog 277 1 1:=Fld.of 0 krStd0
instance:ZeroT Tryz.prog 277 [.string ⟨#[]⟩,ag none 0 0]:=⟨krStd0⟩
instance:TyOne Tryz.prog 293:=⟨fun _=>krStd0,krStd0⟩
instance:TyInt Tryz.prog 293 .u64:=⟨krStd0⟩
instance:TyOne Tryz.prog 297:=⟨fun _=>krStd0,krStd0⟩
instance:TyAgg Tryz.prog 299 4:=⟨fun _=>krStd0,krStd0⟩
instance:Fld Tryz.prog 299 0 0:=Fld.of 0 krStd0
instance:Fld Tryz.prog 299 1 1:=Fld.of 0 krStd0
instance:Fld Tryz.prog 299 2 2:=Fld.of 0 krStd0
instance:Fld Tryz.prog 299 3 3:=Fld.of 0 krStd0
instance:TyStruct Tryz.prog 299 [(0,1),(1,1),(2,1),(3,1)]:=⟨krStd0⟩
instance:ZeroT Tryz.prog 299 [.nilFunc,.nilFunc,.bool false,.nilFunc]:=⟨krStd0⟩
instance:TyOne Tryz.prog 330:=⟨fun _=>krStd0,krStd0⟩
instance:ZeroT Tryz.prog 330 [.nilFunc]:=⟨krStd0⟩
instance:TyAgg Tryz.prog 334 2:=⟨fun _=>krStd0,krStd0⟩
instance:Fld Tryz.prog 334 0 0:=Fld.of 0 krStd0
instance:Fld Tryz.prog 334 1 1:=Fld.of 0 krStd0
instance:ZeroT Tryz.prog 334 [ac 0,ag none 0 0]:=⟨krStd0⟩
instance:TyAgg Tryz.prog 342 2:=⟨fun _=>krStd0,krStd0⟩
instance:Fld Tryz.prog 342 0 0:=Fld.of 0 krStd0
instance:Fld Tryz.prog 342 1 1:=Fld.of 0 krStd0
instance:ZeroT Tryz.prog 342 [ac 0,ac 0]:=⟨krStd0⟩
instance:Fld Tryz.prog 363 0 0:=Fld.of 0 krStd0
instance:Fld Tryz.prog 363 1 1:=Fld.of 0 krStd0
instance:TyStruct Tryz.prog 363 [(0,1),(1,1)]:=⟨krStd0⟩
instance:ZeroT Tryz.prog 363 [ag none 0 0,ac 0]:=⟨krStd0⟩
instance:Fld Tryz.prog 368 0 0:=Fld.of 0 krStd0
instance:TyStruct Tryz.prog 368 [(0,1)]:=⟨krStd0⟩
instance:ZeroT Tryz.prog 368 [ag none 0 0]:=⟨krStd0⟩
instance:TyOne Tryz.prog 370:=⟨fun _=>krStd0,krStd0⟩
instance:TySl Tryz.prog 370 374 4 40 [ac 0,.string ⟨#[]⟩,ac 0,ac 0]:=⟨krStd0,krStd0,by decide,by decide⟩
instance:ZeroT Tryz.prog 370 [ag none 0 0]:=⟨krStd0⟩
instance:TyAgg Tryz.prog 374 4:=⟨fun _=>krStd0,krStd0⟩
instance:Fld Tryz.prog 374 0 0:=Fld.of 0 krStd0
instance:Fld Tryz.prog 374 1 1:=Fld.of 0 krStd0
instance:TyStruct Tryz.prog 374 [(0,1),(1,1),(2,1),(3,1)]:=⟨krStd0⟩
instance:ZeroT Tryz.prog 374 [ac 0,.string ⟨#[]⟩,ac 0,ac 0]:=⟨krStd0⟩
instance en3:En Tryz.prog 3 Tryz.f3 243:=⟨fun _ _=>krStd0,Tryz.func3,rfl⟩
instance en10:En Tryz.prog 10 Tryz.f10 13:=⟨fun _ _=>krStd0,Tryz.func10,rfl⟩
instance en11:En Tryz.prog 11 Tryz.f11 94:=⟨fun _ _=>krStd0,Tryz.func11,rfl⟩
instance en12:En Tryz.prog 12 Tryz.f12 81:=⟨fun _ _=>krStd0,Tryz.func12,rfl⟩
instance en13:En Tryz.prog 13 Tryz.f13 195:=⟨fun _ _=>krStd0,Tryz.func13,rfl⟩
instance en14:En Tryz.prog 14 Tryz.f14 8:=⟨fun _ _=>krStd0,Tryz.func14,rfl⟩
instance en15:En Tryz.prog 15 Tryz.f15 11:=⟨fun _ _=>krStd0,Tryz.func15,rfl⟩
instance en16:En Tryz.prog 16 Tryz.f16 26:=⟨fun _ _=>krStd0,Tryz.func16,rfl⟩
instance en17:En Tryz.prog 17 Tryz.f17 8:=⟨fun _ _=>krStd0,Tryz.func17,rfl⟩
instance en18:En Tryz.prog 18 Tryz.f18 8:=⟨fun _ _=>krStd0,Tryz.func18,rfl⟩
instance en19:En Tryz.prog 19 Tryz.f19 17:=⟨fun _ _=>krStd0,Tryz.func19,rfl⟩
instance en20:En Tryz.prog 20 Tryz.f20 149:=⟨fun _ _=>krStd0,Tryz.func20,rfl⟩
instance en22:En Tryz.prog 22 Tryz.f22 103:=⟨fun _ _=>krStd0,Tryz.func22,rfl⟩
instance en23:En Tryz.prog 23 Tryz.f23 62:=⟨fun _ _=>krStd0,Tryz.func23,rfl⟩
instance en24:En Tryz.prog 24 Tryz.f24 7:=⟨fun _ _=>krStd0,Tryz.func24,rfl⟩
instance en26:En Tryz.prog 26 Tryz.f26 74:=⟨fun _ _=>krStd0,Tryz.func26,rfl⟩
instance en30:En Tryz.prog 30 Tryz.f30 100:=⟨fun _ _=>krStd0,Tryz.func30,rfl⟩
instance en31:En Tryz.prog 31 Tryz.f31 22:=⟨fun _ _=>krStd0,Tryz.func31,rfl⟩
instance en38:En Tryz.prog 38 Tryz.f38 43:=⟨fun _ _=>krStd0,Tryz.func38,rfl⟩
instance en41:En Tryz.prog 41 Tryz.f41 113:=⟨fun _ _=>krStd0,Tryz.func41,rfl⟩
instance en46:En Tryz.prog 46 Tryz.f46 27:=⟨fun _ _=>krStd0,Tryz.func46,rfl⟩
instance en47:En Tryz.prog 47 Tryz.f47 7:=⟨fun _ _=>krStd0,Tryz.func47,rfl⟩
instance en48:En Tryz.prog 48 Tryz.f48 32:=⟨fun _ _=>krStd0,Tryz.func48,rfl⟩
instance en49:En Tryz.prog 49 Tryz.f49 35:=⟨fun _ _=>krStd0,Tryz.func49,rfl⟩
instance en50:En Tryz.prog 50 Tryz.f50 89:=⟨fun _ _=>krStd0,Tryz.func50,rfl⟩
instance en51:En Tryz.prog 51 Tryz.f51 41:=⟨fun _ _=>krStd0,Tryz.func51,rfl⟩
instance en52:En Tryz.prog 52 Tryz.f52 29:=⟨fun _ _=>krStd0,Tryz.func52,rfl⟩
instance en53:En Tryz.prog 53 Tryz.f53 12:=⟨fun _ _=>krStd0,Tryz.func53,rfl⟩
instance en54:En Tryz.prog 54 Tryz.f54 18:=⟨fun _ _=>krStd0,Tryz.func54,rfl⟩
instance en55:En Tryz.prog 55 Tryz.f55 18:=⟨fun _ _=>krStd0,Tryz.func55,rfl⟩
instance en56:En Tryz.prog 56 Tryz.f56 80:=⟨fun _ _=>krStd0,Tryz.func56,rfl⟩
instance en57:En Tryz.prog 57 Tryz.f57 14:=⟨fun _ _=>krStd0,Tryz.func57,rfl⟩
instance en58:En Tryz.prog 58 Tryz.f58 16:=⟨fun _ _=>krStd0,Tryz.func58,rfl⟩
instance en61:En Tryz.prog 61 Tryz.f61 18:=⟨fun _ _=>krStd0,Tryz.func61,rfl⟩
instance en62:En Tryz.prog 62 Tryz.f62 20:=⟨fun _ _=>krStd0,Tryz.func62,rfl⟩
instance en63:En Tryz.prog 63 Tryz.f63 42:=⟨fun _ _=>krStd0,Tryz.func63,rfl⟩
instance en64:En Tryz.prog 64 Tryz.f64 34:=⟨fun _ _=>krStd0,Tryz.func64,rfl⟩
instance en65:En Tryz.prog 65 Tryz.f65 8:=⟨fun _ _=>krStd0,Tryz.func65,rfl⟩
instance en66:En Tryz.prog 66 Tryz.f66 62:=⟨fun _ _=>krStd0,Tryz.func66,rfl⟩
instance en67:En Tryz.prog 67 Tryz.f67 21:=⟨fun _ _=>krStd0,Tryz.func67,rfl⟩
instance en68:En Tryz.prog 68 Tryz.f68 39:=⟨fun _ _=>krStd0,Tryz.func68,rfl⟩
instance en69:En Tryz.prog 69 Tryz.f69 33:=⟨fun _ _=>krStd0,Tryz.func69,rfl⟩
instance en76:En Tryz.prog 76 Tryz.f76 62:=⟨fun _ _=>krStd0,Tryz.func76,rfl⟩
instance en77:En Tryz.prog 77 Tryz.f77 16:=⟨fun _ _=>krStd0,Tryz.func77,rfl⟩
instance en78:En Tryz.prog 78 Tryz.f78 16:=⟨fun _ _=>krStd0,Tryz.func78,rfl⟩
instance en85:En Tryz.prog 85 Tryz.f85 15:=⟨fun _ _=>krStd0,Tryz.func85,rfl⟩
instance en86:En Tryz.prog 86 Tryz.f86 23:=⟨fun _ _=>krStd0,Tryz.func86,rfl⟩
instance en87:En Tryz.prog 87 Tryz.f87 37:=⟨fun _ _=>krStd0,Tryz.func87,rfl⟩
instance en96:En Tryz.prog 96 Tryz.f96 51:=⟨fun _ _=>krStd0,Tryz.func96,rfl⟩
instance en97:En Tryz.prog 97 Tryz.f97 104:=⟨fun _ _=>krStd0,Tryz.func97,rfl⟩
instance en98:En Tryz.prog 98 Tryz.f98 31:=⟨fun _ _=>krStd0,Tryz.func98,rfl⟩
instance en102:En Tryz.prog 102 Tryz.f102 8:=⟨fun _ _=>krStd0,Tryz.func102,rfl⟩
instance en105:En Tryz.prog 105 Tryz.f105 59:=⟨fun _ _=>krStd0,Tryz.func105,rfl⟩
instance en107:En Tryz.prog 107 Tryz.f107 23:=⟨fun _ _=>krStd0,Tryz.func107,rfl⟩
instance en108:En Tryz.prog 108 Tryz.f108 16:=⟨fun _ _=>krStd0,Tryz.func108,rfl⟩
instance en109:En Tryz.prog 109 Tryz.f109 67:=⟨fun _ _=>krStd0,Tryz.func109,rfl⟩
instance en110:En Tryz.prog 110 Tryz.f110 29:=⟨fun _ _=>krStd0,Tryz.func110,rfl⟩
instance en111:En Tryz.prog 111 Tryz.f111 8:=⟨fun _ _=>krStd0,Tryz.func111,rfl⟩
instance en112:En Tryz.prog 112 Tryz.f112 9:=⟨fun _ _=>krStd0,Tryz.func112,rfl⟩
instance en113:En Tryz.prog 113 Tryz.f113 8:=⟨fun _ _=>krStd0,Tryz.func113,rfl⟩
instance en114:En Tryz.prog 114 Tryz.f114 34:=⟨fun _ _=>krStd0,Tryz.func114,rfl⟩
instance en115:En Tryz.prog 115 Tryz.f115 8:=⟨fun _ _=>krStd0,Tryz.func115,rfl⟩
instance en116:En Tryz.prog 116 Tryz.f116 29:=⟨fun _ _=>krStd0,Tryz.func116,rfl⟩
def Kk:Enters Tryz.prog 117:=fun _ _=>krStd0
instance en118:En Tryz.prog 118 Tryz.f118 17:=⟨fun _ _=>krStd0,Tryz.func118,rfl⟩
instance en119:En Tryz.prog 119 Tryz.f119 6:=⟨fun _ _=>krStd0,Tryz.func119,rfl⟩
instance en122:En Tryz.prog 122 Tryz.f122 6:=⟨fun _ _=>krStd0,Tryz.func122,rfl⟩
instance en123:En Tryz.prog 123 Tryz.f123 19:=⟨fun _ _=>krStd0,Tryz.func123,rfl⟩
instance en124:En Tryz.prog 124 Tryz.f124 5:=⟨fun _ _=>krStd0,Tryz.func124,rfl⟩
instance en125:En Tryz.prog 125 Tryz.f125 4:=⟨fun _ _=>krStd0,Tryz.func125,rfl⟩
def Kj:Enters Tryz.prog 126:=fun _ _=>krStd0
instance en127:En Tryz.prog 127 Tryz.f127 9:=⟨fun _ _=>krStd0,Tryz.func127,rfl⟩
instance en128:En Tryz.prog 128 Tryz.f128 6:=⟨fun _ _=>krStd0,Tryz.func128,rfl⟩
instance en129:En Tryz.prog 129 Tryz.f129 24:=⟨fun _ _=>krStd0,Tryz.func129,rfl⟩
instance en132:En Tryz.prog 132 Tryz.f132 70:=⟨fun _ _=>krStd0,Tryz.func132,rfl⟩
instance en133:En Tryz.prog 133 Tryz.f133 8:=⟨fun _ _=>krStd0,Tryz.func133,rfl⟩
instance en134:En Tryz.prog 134 Tryz.f134 186:=⟨fun _ _=>krStd0,Tryz.func134,rfl⟩
instance en136:En Tryz.prog 136 Tryz.f136 32:=⟨fun _ _=>krStd0,Tryz.func136,rfl⟩
instance en137:En Tryz.prog 137 Tryz.f137 114:=⟨fun _ _=>krStd0,Tryz.func137,rfl⟩
instance en138:En Tryz.prog 138 Tryz.f138 64:=⟨fun _ _=>krStd0,Tryz.func138,rfl⟩
instance en139:En Tryz.prog 139 Tryz.f139 81:=⟨fun _ _=>krStd0,Tryz.func139,rfl⟩
instance en140:En Tryz.prog 140 Tryz.f140 27:=⟨fun _ _=>krStd0,Tryz.func140,rfl⟩
instance en141:En Tryz.prog 141 Tryz.f141 98:=⟨fun _ _=>krStd0,Tryz.func141,rfl⟩
instance en142:En Tryz.prog 142 Tryz.f142 61:=⟨fun _ _=>krStd0,Tryz.func142,rfl⟩
instance en143:En Tryz.prog 143 Tryz.f143 93:=⟨fun _ _=>krStd0,Tryz.func143,rfl⟩
instance en145:En Tryz.prog 145 Tryz.f145 22:=⟨fun _ _=>krStd0,Tryz.func145,rfl⟩
instance en146:En Tryz.prog 146 Tryz.f146 55:=⟨fun _ _=>krStd0,Tryz.func146,rfl⟩
instance en147:En Tryz.prog 147 Tryz.f147 28:=⟨fun _ _=>krStd0,Tryz.func147,rfl⟩
instance en148:En Tryz.prog 148 Tryz.f148 15:=⟨fun _ _=>krStd0,Tryz.func148,rfl⟩
instance en151:En Tryz.prog 151 Tryz.f151 26:=⟨fun _ _=>krStd0,Tryz.func151,rfl⟩
instance en154:En Tryz.prog 154 Tryz.f154 40:=⟨fun _ _=>krStd0,Tryz.func154,rfl⟩
instance en155:En Tryz.prog 155 Tryz.f155 21:=⟨fun _ _=>krStd0,Tryz.func155,rfl⟩
instance en156:En Tryz.prog 156 Tryz.f156 21:=⟨fun _ _=>krStd0,Tryz.func156,rfl⟩
instance en157:En Tryz.prog 157 Tryz.f157 25:=⟨fun _ _=>krStd0,Tryz.func157,rfl⟩
instance en158:En Tryz.prog 158 Tryz.f158 24:=⟨fun _ _=>krStd0,Tryz.func158,rfl⟩
instance en159:En Tryz.prog 159 Tryz.f159 8:=⟨fun _ _=>krStd0,Tryz.func159,rfl⟩
instance en160:En Tryz.prog 160 Tryz.f160 29:=⟨fun _ _=>krStd0,Tryz.func160,rfl⟩
instance en161:En Tryz.prog 161 Tryz.f161 16:=⟨fun _ _=>krStd0,Tryz.func161,rfl⟩
instance en162:En Tryz.prog 162 Tryz.f162 29:=⟨fun _ _=>krStd0,Tryz.func162,rfl⟩
instance en163:En Tryz.prog 163 Tryz.f163 8:=⟨fun _ _=>krStd0,Tryz.func163,rfl⟩
instance en164:En Tryz.prog 164 Tryz.f164 29:=⟨fun _ _=>krStd0,Tryz.func164,rfl⟩
instance en165:En Tryz.prog 165 Tryz.f165 8:=⟨fun _ _=>krStd0,Tryz.func165,rfl⟩
instance en166:En Tryz.prog 166 Tryz.f166 8:=⟨fun _ _=>krStd0,Tryz.func166,rfl⟩
instance en167:En Tryz.prog 167 Tryz.f167 9:=⟨fun _ _=>krStd0,Tryz.func167,rfl⟩
instance en168:En Tryz.prog 168 Tryz.f168 8:=⟨fun _ _=>krStd0,Tryz.func168,rfl⟩
instance en169:En Tryz.prog 169 Tryz.f169 19:=⟨fun _ _=>krStd0,Tryz.func169,rfl⟩
instance en171:En Tryz.prog 171 Tryz.f171 131:=⟨fun _ _=>krStd0,Tryz.func171,rfl⟩
instance en172:En Tryz.prog 172 Tryz.f172 39:=⟨fun _ _=>krStd0,Tryz.func172,rfl⟩
instance en182:En Tryz.prog 182 Tryz.f182 25:=⟨fun _ _=>krStd0,Tryz.func182,rfl⟩
instance en183:En Tryz.prog 183 Tryz.f183 13:=⟨fun _ _=>krStd0,Tryz.func183,rfl⟩
instance en184:En Tryz.prog 184 Tryz.f184 14:=⟨fun _ _=>krStd0,Tryz.func184,rfl⟩
instance en186:En Tryz.prog 186 Tryz.f186 19:=⟨fun _ _=>krStd0,Tryz.func186,rfl⟩
instance en187:En Tryz.prog 187 Tryz.f187 33:=⟨fun _ _=>krStd0,Tryz.func187,rfl⟩
instance en188:En Tryz.prog 188 Tryz.f188 9:=⟨fun _ _=>krStd0,Tryz.func188,rfl⟩
instance en189:En Tryz.prog 189 Tryz.f189 22:=⟨fun _ _=>krStd0,Tryz.func189,rfl⟩
instance en190:En Tryz.prog 190 Tryz.f190 93:=⟨fun _ _=>krStd0,Tryz.func190,rfl⟩
instance en191:En Tryz.prog 191 Tryz.f191 29:=⟨fun _ _=>krStd0,Tryz.func191,rfl⟩
instance en192:En Tryz.prog 192 Tryz.f192 8:=⟨fun _ _=>krStd0,Tryz.func192,rfl⟩
instance en193:En Tryz.prog 193 Tryz.f193 35:=⟨fun _ _=>krStd0,Tryz.func193,rfl⟩
instance en194:En Tryz.prog 194 Tryz.f194 33:=⟨fun _ _=>krStd0,Tryz.func194,rfl⟩
instance en195:En Tryz.prog 195 Tryz.f195 17:=⟨fun _ _=>krStd0,Tryz.func195,rfl⟩
instance en196:En Tryz.prog 196 Tryz.f196 5:=⟨fun _ _=>krStd0,Tryz.func196,rfl⟩
instance en197:En Tryz.prog 197 Tryz.f197 7:=⟨fun _ _=>krStd0,Tryz.func197,rfl⟩
instance en198:En Tryz.prog 198 Tryz.f198 6:=⟨fun _ _=>krStd0,Tryz.func198,rfl⟩
instance en199:En Tryz.prog 199 Tryz.f199 13:=⟨fun _ _=>krStd0,Tryz.func199,rfl⟩
instance en200:En Tryz.prog 200 Tryz.f200 7:=⟨fun _ _=>krStd0,Tryz.func200,rfl⟩
instance en201:En Tryz.prog 201 Tryz.f201 18:=⟨fun _ _=>krStd0,Tryz.func201,rfl⟩
instance en202:En Tryz.prog 202 Tryz.f202 8:=⟨fun _ _=>krStd0,Tryz.func202,rfl⟩
instance en203:En Tryz.prog 203 Tryz.f203 19:=⟨fun _ _=>krStd0,Tryz.func203,rfl⟩
instance en204:En Tryz.prog 204 Tryz.f204 73:=⟨fun _ _=>krStd0,Tryz.func204,rfl⟩
instance en205:En Tryz.prog 205 Tryz.f205 18:=⟨fun _ _=>krStd0,Tryz.func205,rfl⟩
instance en206:En Tryz.prog 206 Tryz.f206 21:=⟨fun _ _=>krStd0,Tryz.func206,rfl⟩
instance en207:En Tryz.prog 207 Tryz.f207 18:=⟨fun _ _=>krStd0,Tryz.func207,rfl⟩
instance en208:En Tryz.prog 208 Tryz.f208 7:=⟨fun _ _=>krStd0,Tryz.func208,rfl⟩
instance en209:En Tryz.prog 209 Tryz.f209 18:=⟨fun _ _=>krStd0,Tryz.func209,rfl⟩
instance en210:En Tryz.prog 210 Tryz.f210 7:=⟨fun _ _=>krStd0,Tryz.func210,rfl⟩
instance en211:En Tryz.prog 211 Tryz.f211 18:=⟨fun _ _=>krStd0,Tryz.func211,rfl⟩
instance en212:En Tryz.prog 212 Tryz.f212 6:=⟨fun _ _=>krStd0,Tryz.func212,rfl⟩
instance en213:En Tryz.prog 213 Tryz.f213 34:=⟨fun _ _=>krStd0,Tryz.func213,rfl⟩
instance en214:En Tryz.prog 214 Tryz.f214 6:=⟨fun _ _=>krStd0,Tryz.func214,rfl⟩
instance en215:En Tryz.prog 215 Tryz.f215 6:=⟨fun _ _=>krStd0,Tryz.func215,rfl⟩
instance en216:En Tryz.prog 216 Tryz.f216 6:=⟨fun _ _=>krStd0,Tryz.func216,rfl⟩
instance en217:En Tryz.prog 217 Tryz.f217 27:=⟨fun _ _=>krStd0,Tryz.func217,rfl⟩
instance en218:En Tryz.prog 218 Tryz.f218 5:=⟨fun _ _=>krStd0,Tryz.func218,rfl⟩
instance en219:En Tryz.prog 219 Tryz.f219 27:=⟨fun _ _=>krStd0,Tryz.func219,rfl⟩
instance en220:En Tryz.prog 220 Tryz.f220 5:=⟨fun _ _=>krStd0,Tryz.func220,rfl⟩
instance en221:En Tryz.prog 221 Tryz.f221 27:=⟨fun _ _=>krStd0,Tryz.func221,rfl⟩
instance en222:En Tryz.prog 222 Tryz.f222 5:=⟨fun _ _=>krStd0,Tryz.func222,rfl⟩
instance en223:En Tryz.prog 223 Tryz.f223 27:=⟨fun _ _=>krStd0,Tryz.func223,rfl⟩
instance en224:En Tryz.prog 224 Tryz.f224 5:=⟨fun _ _=>krStd0,Tryz.func224,rfl⟩
instance en225:En Tryz.prog 225 Tryz.f225 28:=⟨fun _ _=>krStd0,Tryz.func225,rfl⟩
instance en226:En Tryz.prog 226 Tryz.f226 36:=⟨fun _ _=>krStd0,Tryz.func226,rfl⟩
instance en227:En Tryz.prog 227 Tryz.f227 31:=⟨fun _ _=>krStd0,Tryz.func227,rfl⟩
instance en228:En Tryz.prog 228 Tryz.f228 52:=⟨fun _ _=>krStd0,Tryz.func228,rfl⟩
instance en229:En Tryz.prog 229 Tryz.f229 59:=⟨fun _ _=>krStd0,Tryz.func229,rfl⟩
instance en230:En Tryz.prog 230 Tryz.f230 14:=⟨fun _ _=>krStd0,Tryz.func230,rfl⟩
instance en231:En Tryz.prog 231 Tryz.f231 18:=⟨fun _ _=>krStd0,Tryz.func231,rfl⟩
instance en232:En Tryz.prog 232 Tryz.f232 8:=⟨fun _ _=>krStd0,Tryz.func232,rfl⟩
instance en233:En Tryz.prog 233 Tryz.f233 37:=⟨fun _ _=>krStd0,Tryz.func233,rfl⟩
instance en234:En Tryz.prog 234 Tryz.f234 5:=⟨fun _ _=>krStd0,Tryz.func234,rfl⟩
instance en235:En Tryz.prog 235 Tryz.f235 18:=⟨fun _ _=>krStd0,Tryz.func235,rfl⟩
instance en236:En Tryz.prog 236 Tryz.f236 11:=⟨fun _ _=>krStd0,Tryz.func236,rfl⟩
instance en237:En Tryz.prog 237 Tryz.f237 26:=⟨fun _ _=>krStd0,Tryz.func237,rfl⟩
instance en238:En Tryz.prog 238 Tryz.f238 24:=⟨fun _ _=>krStd0,Tryz.func238,rfl⟩
instance en239:En Tryz.prog 239 Tryz.f239 43:=⟨fun _ _=>krStd0,Tryz.func239,rfl⟩
instance en240:En Tryz.prog 240 Tryz.f240 12:=⟨fun _ _=>krStd0,Tryz.func240,rfl⟩
instance en241:En Tryz.prog 241 Tryz.f241 6:=⟨fun _ _=>krStd0,Tryz.func241,rfl⟩
instance en242:En Tryz.prog 242 Tryz.f242 8:=⟨fun _ _=>krStd0,Tryz.func242,rfl⟩
instance en243:En Tryz.prog 243 Tryz.f243 6:=⟨fun _ _=>krStd0,Tryz.func243,rfl⟩
instance en244:En Tryz.prog 244 Tryz.f244 29:=⟨fun _ _=>krStd0,Tryz.func244,rfl⟩
instance en245:En Tryz.prog 245 Tryz.f245 8:=⟨fun _ _=>krStd0,Tryz.func245,rfl⟩
instance en246:En Tryz.prog 246 Tryz.f246 8:=⟨fun _ _=>krStd0,Tryz.func246,rfl⟩
instance en269:En Tryz.prog 269 Tryz.f269 5:=⟨fun _ _=>krStd0,Tryz.func269,rfl⟩
instance en270:En Tryz.prog 270 Tryz.f270 5:=⟨fun _ _=>krStd0,Tryz.func270,rfl⟩
instance en271:En Tryz.prog 271 Tryz.f271 13:=⟨fun _ _=>krStd0,Tryz.func271,rfl⟩
instance en272:En Tryz.prog 272 Tryz.f272 3:=⟨fun _ _=>krStd0,Tryz.func272,rfl⟩
instance en273:En Tryz.prog 273 Tryz.f273 171:=⟨fun _ _=>krStd0,Tryz.func273,rfl⟩
instance en274:En Tryz.prog 274 Tryz.f274 61:=⟨fun _ _=>krStd0,Tryz.func274,rfl⟩
instance en275:En Tryz.prog 275 Tryz.f275 73:=⟨fun _ _=>krStd0,Tryz.func275,rfl⟩
instance en276:En Tryz.prog 276 Tryz.f276 71:=⟨fun _ _=>krStd0,Tryz.func276,rfl⟩
instance en277:En Tryz.prog 277 Tryz.f277 116:=⟨fun _ _=>krStd0,Tryz.func277,rfl⟩
instance en278:En Tryz.prog 278 Tryz.f278 39:=⟨fun _ _=>krStd0,Tryz.func278,rfl⟩
instance en279:En Tryz.prog 279 Tryz.f279 8:=⟨fun _ _=>krStd0,Tryz.func279,rfl⟩
instance en280:En Tryz.prog 280 Tryz.f280 11:=⟨fun _ _=>krStd0,Tryz.func280,rfl⟩
instance en281:En Tryz.prog 281 Tryz.f281 43:=⟨fun _ _=>krStd0,Tryz.func281,rfl⟩
instance en282:En Tryz.prog 282 Tryz.f282 33:=⟨fun _ _=>krStd0,Tryz.func282,rfl⟩
instance en283:En Tryz.prog 283 Tryz.f283 44:=⟨fun _ _=>krStd0,Tryz.func283,rfl⟩
instance en284:En Tryz.prog 284 Tryz.f284 8:=⟨fun _ _=>krStd0,Tryz.func284,rfl⟩
instance en285:En Tryz.prog 285 Tryz.f285 23:=⟨fun _ _=>krStd0,Tryz.func285,rfl⟩
instance en286:En Tryz.prog 286 Tryz.f286 21:=⟨fun _ _=>krStd0,Tryz.func286,rfl⟩
instance en287:En Tryz.prog 287 Tryz.f287 8:=⟨fun _ _=>krStd0,Tryz.func287,rfl⟩
instance en288:En Tryz.prog 288 Tryz.f288 25:=⟨fun _ _=>krStd0,Tryz.func288,rfl⟩
instance en289:En Tryz.prog 289 Tryz.f289 11:=⟨fun _ _=>krStd0,Tryz.func289,rfl⟩
instance en290:En Tryz.prog 290 Tryz.f290 18:=⟨fun _ _=>krStd0,Tryz.func290,rfl⟩
instance en291:En Tryz.prog 291 Tryz.f291 21:=⟨fun _ _=>krStd0,Tryz.func291,rfl⟩
instance en299:En Tryz.prog 299 Tryz.f299 9:=⟨fun _ _=>krStd0,Tryz.func299,rfl⟩
instance en300:En Tryz.prog 300 Tryz.f300 74:=⟨fun _ _=>krStd0,Tryz.func300,rfl⟩
instance en301:En Tryz.prog 301 Tryz.f301 23:=⟨fun _ _=>krStd0,Tryz.func301,rfl⟩
instance en302:En Tryz.prog 302 Tryz.f302 20:=⟨fun _ _=>krStd0,Tryz.func302,rfl⟩
instance en303:En Tryz.prog 303 Tryz.f303 22:=⟨fun _ _=>krStd0,Tryz.func303,rfl⟩
instance en304:En Tryz.prog 304 Tryz.f304 9:=⟨fun _ _=>krStd0,Tryz.func304,rfl⟩
instance en305:En Tryz.prog 305 Tryz.f305 19:=⟨fun _ _=>krStd0,Tryz.func305,rfl⟩
instance en306:En Tryz.prog 306 Tryz.f306 31:=⟨fun _ _=>krStd0,Tryz.func306,rfl⟩
instance en307:En Tryz.prog 307 Tryz.f307 10:=⟨fun _ _=>krStd0,Tryz.func307,rfl⟩
instance en308:En Tryz.prog 308 Tryz.f308 4:=⟨fun _ _=>krStd0,Tryz.func308,rfl⟩
instance en311:En Tryz.prog 311 Tryz.f311 6:=⟨fun _ _=>krStd0,Tryz.func311,rfl⟩
instance en312:En Tryz.prog 312 Tryz.f312 100:=⟨fun _ _=>krStd0,Tryz.func312,rfl⟩
instance en313:En Tryz.prog 313 Tryz.f313 8:=⟨fun _ _=>krStd0,Tryz.func313,rfl⟩
instance en314:En Tryz.prog 314 Tryz.f314 22:=⟨fun _ _=>krStd0,Tryz.func314,rfl⟩
instance en315:En Tryz.prog 315 Tryz.f315 34:=⟨fun _ _=>krStd0,Tryz.func315,rfl⟩
instance en316:En Tryz.prog 316 Tryz.f316 32:=⟨fun _ _=>krStd0,Tryz.func316,rfl⟩
instance en317:En Tryz.prog 317 Tryz.f317 99:=⟨fun _ _=>krStd0,Tryz.func317,rfl⟩
instance en318:En Tryz.prog 318 Tryz.f318 17:=⟨fun _ _=>krStd0,Tryz.func318,rfl⟩
instance en319:En Tryz.prog 319 Tryz.f319 9:=⟨fun _ _=>krStd0,Tryz.func319,rfl⟩
instance en320:En Tryz.prog 320 Tryz.f320 52:=⟨fun _ _=>krStd0,Tryz.func320,rfl⟩
def Ki:Enters Tryz.prog 321:=fun _ _=>krStd0
instance en322:En Tryz.prog 322 Tryz.f322 20:=⟨fun _ _=>krStd0,Tryz.func322,rfl⟩
instance en323:En Tryz.prog 323 Tryz.f323 20:=⟨fun _ _=>krStd0,Tryz.func323,rfl⟩
instance en324:En Tryz.prog 324 Tryz.f324 6:=⟨fun _ _=>krStd0,Tryz.func324,rfl⟩
instance en325:En Tryz.prog 325 Tryz.f325 20:=⟨fun _ _=>krStd0,Tryz.func325,rfl⟩
instance en327:En Tryz.prog 327 Tryz.f327 9:=⟨fun _ _=>krStd0,Tryz.func327,rfl⟩
instance en328:En Tryz.prog 328 Tryz.f328 51:=⟨fun _ _=>krStd0,Tryz.func328,rfl⟩
instance en329:En Tryz.prog 329 Tryz.f329 135:=⟨fun _ _=>krStd0,Tryz.func329,rfl⟩
instance en331:En Tryz.prog 331 Tryz.f331 6:=⟨fun _ _=>krStd0,Tryz.func331,rfl⟩
instance en332:En Tryz.prog 332 Tryz.f332 43:=⟨fun _ _=>krStd0,Tryz.func332,rfl⟩
instance en334:En Tryz.prog 334 Tryz.f334 6:=⟨fun _ _=>krStd0,Tryz.func334,rfl⟩
def mixed:Tryz.prog.follows .mixedOrders=true:=krStd0
