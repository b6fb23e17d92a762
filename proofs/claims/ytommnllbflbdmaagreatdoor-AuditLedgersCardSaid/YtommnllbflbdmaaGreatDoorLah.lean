/- Lemmas. -/
import Derived.Test.YtommnllbflbdmaaGreatDoorLV16
import Derived.Laws.Strings2
set_option linter.all false
namespace Go.V
section
def jn(P:Program)(N:Nat)(rs:List ResultVar)(post:Value→LH→Prop):Post:=Ends P N rs post
section inp
variable {P:Program}{N M:Nat}{env:Env}{L:LH}{K:Post}{post:Value→LH→Prop}{ops:Array Oper}{rest:List Oper}{d:Nat}{ty:TypeId}{pos:String}{af:Array Edge}
theorem KX.f7{e:Exit}{rs:List ResultVar}(h:jn P N rs post e env L):jn P N rs post e env L:=h
theorem KX.in0{e:Exit}(he:e=.ret∨e=.normal)(h:post (.tuple #[]) L):jn P N [] post e env L:=⟨he,fun _ _ _ s=>⟨[],L,ResOk.nil,s,h⟩⟩
theorem KX.in1{e:Exit}{t:Nat}{v:Value}(he:e=.ret∨e=.normal)(h1:env.lookup t=some v)(h:post v L):jn P N [.tmp t] post e env L:=⟨he,fun _ _ _ s=>⟨[v],L,ResOk.tmp h1 ResOk.nil,s,h⟩⟩
theorem KX.in2{e:Exit}{t u:Nat}{v w:Value}(he:e=.ret∨e=.normal)(h1:env.lookup t=some v)(h2:env.lookup u=some w)(h:post (.tuple #[v,w]) L):jn P N [.tmp t,.tmp u] post e env L:=⟨he,fun _ _ _ s=>⟨[v,w],L,ResOk.tmp h1 (ResOk.tmp h2 ResOk.nil),s,h⟩⟩
theorem KX.in3{e:Exit}{t u x:Nat}{v w y:Value}(he:e=.ret∨e=.normal)(h1:env.lookup t=some v)(h2:env.lookup u=some w)(h3:env.lookup x=some y)(h:post (.tuple #[v,w,y]) L):jn P N [.tmp t,.tmp u,.tmp x] post e env L:=⟨he,fun _ _ _ s=>⟨[v,w,y],L,ResOk.tmp h1 (ResOk.tmp h2 (ResOk.tmp h3 ResOk.nil)),s,h⟩⟩
theorem KX.inC{e:Exit}{x b T n:Nat}{t:TypeId}{cs:LV}{Rest:LH}[ht:TyAgg P t n][hp:PickObj L b T cs Rest](he:e=.ret∨e=.normal)(h1:env.lookup x=some (au b))(hn:cs.length=n)(h:post (.agg cs.toArray) L):jn P N [.cell x t] post e env L :=
 ⟨he,fun _ _ _ s=>⟨[.agg cs.toArray],L,ResOk.cell h1 hn ResOk.nil,s,h⟩⟩
theorem KX.e9{e:Exit}{x b T n u:Nat}{t:TypeId}{cs:LV}{w:Value}{Rest:LH}[ht:TyAgg P t n][hp:PickObj L b T cs Rest](he:e=.ret∨e=.normal)(h1:env.lookup x=some (au b))(hn:cs.length=n)(h2:env.lookup u=some w)(h:post (.tuple #[.agg cs.toArray,w]) L):jn P N [.cell x t,.tmp u] post e env L :=
 ⟨he,fun _ _ _ s=>⟨[.agg cs.toArray,w],L,ResOk.cell h1 hn (ResOk.tmp h2 ResOk.nil),s,h⟩⟩
variable {f:FuncId}{fn:Func}{c:Code}{rs:List ResultVar}{xs:Array Operand}{ats:Array TypeId}{vs:LV}
theorem GO.e7(he:Enters P f)(hf:P.funcs[f]? = some fn)(hb:fn.body=some c)(hr:fn.results=rs.toArray)(hN:fn.ntmps=M)(hv:gQ env xs.toList=some vs)(hN' : vs.length≤M)(hd:d<N)
  (h:G P M c (env0 vs 0) L (jn P M rs (fun v L'=>GO P N ops rest ((d,v)::env) L' K))):GO P N ops (⟨some d,.call { callee:=.value (.func f),args:=xs,argTypes:=ats },ty,pos,af,none⟩::rest) env L K :=
 GO.ef (Ef.d7 (Tri.body (args:=vs) M he hf hb hr hN hN' h) hv) hd fun _ _ h=>h
theorem GPW.e7{done:List Nat}{plan:List Stp}{pend:List PE}{i:Nat}(he:Enters P f)(hf:P.funcs[f]? = some fn)(hb:fn.body=some c)(hr:fn.results=rs.toArray)(hN:fn.ntmps=M)(hv:gQ env xs.toList=some vs)(hN' : vs.length≤M)(hd:d<N)
  (h:G P M c (env0 vs 0) L (jn P M rs (fun v L'=>GPK P N ops done i plan pend [] ((d,v)::env) L' K))):GPW P N ops done (.ef i) plan (some d) (.call { callee:=.value (.func f),args:=xs,argTypes:=ats }) ty pend env L K :=
 GPW.ef (Ef.d7 (Tri.body (args:=vs) M he hf hb hr hN hN' h) hv) hd fun _ _ h=>h
theorem Ef.g8{x:Operand}{first cap:LV}{post:Value→LH→Prop}(c:Tri P f (first++vs++cap).toArray L post)(hx:evE env x=some (.func (.func f) first.toArray cap.toArray))(hv:gQ env xs.toList=some vs) :
  Ef P L env (.call { callee:=.value x,args:=xs,argTypes:=ats }) ty post:=by
 have h:=Ef.m7 (R':=[]) (ats:=ats) (ty:=ty) c hx hv (by rw[ba];exact Ent.refl _);intro θ R a w o next Q ha s h1 h2 hn
 exact h θ R a w o next Q ha s h1 h2 (fun v L' w' ⟨L₁,hp,he⟩ s'=>hn v L₁ w' hp (by rw[he,ba] at s';exact s'))
theorem GO.d8{x:Operand}{first cap:LV}(hx:evE env x=some (.func (.func f) first.toArray cap.toArray))(he:Enters P f)(hf:P.funcs[f]? = some fn)(hb:fn.body=some c)(hr:fn.results=rs.toArray)(hN:fn.ntmps=M)(hv:gQ env xs.toList=some vs)(hN' : (first++vs++cap).length≤M)(hd:d<N)
  (h:G P M c (env0 (first++vs++cap) 0) L (jn P M rs (fun v L'=>GO P N ops rest ((d,v)::env) L' K))):GO P N ops (⟨some d,.call { callee:=.value x,args:=xs,argTypes:=ats },ty,pos,af,none⟩::rest) env L K :=
 GO.ef (Ef.g8 (Tri.body (args:=first++vs++cap) M he hf hb hr hN hN' h) hx hv) hd fun _ _ h=>h
theorem GPW.d8{done:List Nat}{plan:List Stp}{pend:List PE}{i:Nat}{x:Operand}{first cap:LV}(hx:evE env x=some (.func (.func f) first.toArray cap.toArray))(he:Enters P f)(hf:P.funcs[f]? = some fn)(hb:fn.body=some c)(hr:fn.results=rs.toArray)(hN:fn.ntmps=M)(hv:gQ env xs.toList=some vs)(hN' : (first++vs++cap).length≤M)(hd:d<N)
  (h:G P M c (env0 (first++vs++cap) 0) L (jn P M rs (fun v L'=>GPK P N ops done i plan pend [] ((d,v)::env) L' K))):GPW P N ops done (.ef i) plan (some d) (.call { callee:=.value x,args:=xs,argTypes:=ats }) ty pend env L K :=
 GPW.ef (Ef.g8 (Tri.body (args:=first++vs++cap) M he hf hb hr hN hN' h) hx hv) hd fun _ _ h=>h
theorem Ef.d9{x:Operand}{first cap:LV}{post:Value→LH→Prop}(hx:evE env x=some (.func (.func f) first.toArray cap.toArray))(hv:gQ env xs.toList=some vs)(c:Tri P f (first++vs++cap).toArray L post) :
  Ef P L env (.call { callee:=.value x,args:=xs,argTypes:=ats }) ty post:=Ef.g8 c hx hv
theorem Ef.m5{x:Operand}{first cap:LV}{pre R' : LH}{post:Value→LH→Prop}(hx:evE env x=some (.func (.func f) first.toArray cap.toArray))(hv:gQ env xs.toList=some vs)(c:Tri P f (first++vs++cap).toArray pre post)(hL:Ent L (pre++R')) :
  Ef P L env (.call { callee:=.value x,args:=xs,argTypes:=ats }) ty (fun v L'=>∃L₁,post v L₁∧L' = L₁++R'):=Ef.m7 c hx hv hL
end inp
end
section
class TyArr (P:Program) (T:Nat) (n E sz:outParam Nat):Prop where
 under:P.underlying T=some (.array n E)
 size:(P.info? E).map (·.size)=some sz
theorem TyArr.sizeOf_run{P:Program}{T n E sz:Nat}(h:TyArr P T n E sz)(w:World):(sizeOf E).run P w=.ok sz w:=by
 have h1:=h.size;cases hi:P.info? E with
 | none=>rw[hi] at h1;cases h1
 | some i=>rw[hi] at h1;simp at h1;simp[sizeOf,typeInfo,hi,h1]
theorem Gg(a:Addr)(i j:Nat):(a.add i).add j=a.add (i+j):=by
 unfold Addr.add;by_cases hi:i=0
 ·subst hi;simp
 ·by_cases hj:j=0
  ·subst hj;simp[hi]
  ·have:i+j≠0:=ac;simp[hi,hj,dH]
section
variable {P:Program}{N:Nat}{env:Env}{L:LH}{ty:TypeId}{v:Value}
theorem Ev.x7{t:TypeId}{x i:Operand}(h:Ev P L env (.index t x i) ty v):Ev P L env (.index t x i) ty v:=h
theorem Ev.m9{t:TypeId}{x i:Operand}{b o n E sz:Nat}{j:Int}{k:IntKind}[ht:TyArr P t n E sz](hx:evE env x=some (.pointer (some ⟨b,o,none⟩)))(hi:evE env i=some (.int k j))(h0:0≤j)(h1:j<n) :
  Ev P L env (.indexAddr t x i) ty (.pointer (some ⟨b,o+j.toNat*sz,none⟩)) :=
 Ev.mk (fun θ R _ w ea s _ _ _ _=>by
  simp[execOp,aO ea hx,aO ea hi,Instr.indexAt,asIntOf,run_underlying ht.under,h0,h1,ht.sizeOf_run,jo,Instr.sureAddr])
theorem Ev.o6{t:TypeId}{x i:Operand}{ad:OA}{s' m o n E sz:Nat}{j:Int}{k:IntKind}{α:Type}{enc:α→LV}{xs:List α}[ht:TyArr P t n E sz][hr:Rds L ad α enc s' xs](hx:evE env x=some (.pointer (elP ad s' m o)))(hi:evE env i=some (.int k j))(hm:m<xs.length)(h0:0≤j)(h1:j<n) :
  Ev P L env (.indexAddr t x i) ty (.pointer (elP ad s' m (o+j.toNat*sz))) :=
 Ev.mk (fun θ R _ w ea s _ _ _ _=>by
  obtain⟨_,h2⟩:=hr.rd θ R w s;rcases h2 with h2|⟨a,rfl,_⟩
  ·subst h2;simp at hm
  ·simp[execOp,aO ea hx,aO ea hi,Instr.indexAt,asIntOf,run_underlying ht.under,h0,h1,ht.sizeOf_run,elP,Instr.sureAddr,Gg,dH])
theorem Bp{s:ByteArray}{i:Nat}(h:i<s.size):s[i]? = some (s.data[i]'(by simpa using h)):=by
 simp[h];rfl
theorem Ev.t7{t:TypeId}{x i:Operand}{s:ByteArray}{j:Int}{k:IntKind}[ht:TyStr P t](hx:evE env x=some (.string s))(hi:evE env i=some (.int k j))(h0:0≤j)(h1:j<s.size) :
  Ev P L env (.index t x i) ty (.int .u8 ((ed s)[j.toNat]!)) :=
 Ev.mk (fun θ R _ w ea st _ _ _ _=>by
  have hlt:j.toNat<s.size:=ac
  have hn:(ed s)[j.toNat]! = ((s.data[j.toNat]'(by simpa using hlt)).toNat:Int):=by
   rw[List.getElem!_eq_getElem?_getD,List.getElem?_eq_getElem (by rw[nM];exact hlt)];simp[ed]
  rw[hn];simp[execOp,aO ea hx,aO ea hi,Instr.index,asIntOf,run_underlying ht.under,h0,Bp hlt])
theorem tO(s:ByteArray):∀x∈ed s,0≤x∧x≤255:=by
 intro x hx;simp only[ed,List.mem_map] at hx;obtain⟨y,_,rfl⟩:=hx;have:=y.toNat_lt
 omega
theorem Ev.v6{t:TypeId}{x lo hi:Operand}{s:ByteArray}{k k' : IntKind}{i j:Int}[ht:TyStr P t](hx:evE env x=some (.string s))(hl:evE env lo=some (.int k i))(hh:evE env hi=some (.int k' j))(h0:0≤i)(h1:i≤j)(h2:j≤s.size) :
  Ev P L env (.slice t x (some lo) (some hi) none) ty (.string (s.extract i.toNat j.toNat)) :=
 Ev.mk (fun θ R _ w ea st _ _ _ _=>by
  have h3:0≤j:=ac;simp[execOp,aO ea hx,aO ea hl,aO ea hh,Instr.sliceAt,Instr.slice,Instr.sliceBounds,Instr.sliceBound,asIntOf,run_underlying ht.under,h0,h2,h3];intro h;exact absurd h ac)
theorem qw(s:ByteArray):s.extract 0 s.size=s:=by
 apply ByteArray.ext;simp
end
end
section
def putK:Nat→LV→LV→(LV→Option (LV))→Option (LV)
 | 0,[],z,k=>k z
 | 0,c::cs,_::z,k=>putK 0 cs z fun r=>k (c::r)
 | o+1,cs,x::z,k=>putK o cs z fun r=>k (x::r)
 | _,_,[],_=>none
theorem pJ:∀(o:Nat) (cs z:LV) (k:LV→Option (LV)) (r:LV),putK o cs z k=some r→o+cs.length≤z.length∧k (z.take o++cs++z.drop (o+cs.length))=some r
 | 0,[],z,k,r,h=>by simpa [putK] using h
 | 0,c::cs,[],k,r,h=>by simp[putK] at h
 | 0,c::cs,_::z,k,r,h=>by
  simp only[putK] at h;have:=pJ 0 cs z _ r h
  simp at this ⊢;exact this
 | o+1,cs,[],k,r,h=>by simp[putK] at h
 | o+1,cs,x::z,k,r,h=>by
  simp only[putK] at h;have:=pJ o cs z _ r h
  rw[show o+1+cs.length=o+cs.length+1 by omega];simp at this ⊢;exact⟨ac,this.2⟩
def subK:Nat→Nat→LV→(LV→Option (LV))→Option (LV)
 | 0,0,_,k=>k []
 | 0,n+1,x::z,k=>subK 0 n z fun r=>k (x::r)
 | o+1,n,_::z,k=>subK o n z k
 | _,_,[],_=>none
theorem sH:∀(o n:Nat) (z:LV) (k:LV→Option (LV)) (r:LV),subK o n z k=some r→o+n≤z.length∧k ((z.drop o).take n)=some r
 | 0,0,z,k,r,h=>by cases z<;>simpa [subK] using h
 | 0,n+1,[],k,r,h=>by simp[subK] at h
 | 0,n+1,x::z,k,r,h=>by
  simp only[subK] at h;have:=sH 0 n z _ r h
  simp at this ⊢;exact this
 | o+1,n,[],k,r,h=>by cases n<;>simp[subK] at h
 | o+1,n,x::z,k,r,h=>by
  have h' : subK o n z k=some r:=by cases n<;>simpa only[subK] using h
  have:=sH o n z _ r h'
  rw[show o+1+n=o+n+1 by omega];simp at this ⊢;exact this
def lg:Value→LV
 | .agg cs=>cs.toList
 | v=>[v]
def uR:Value→Bool
 | .tuple _=>true
 | _=>false
theorem Ch(v:Value)(ht:uR v=false):v.cells=(lg v).toArray:=by
 cases v<;>simp[Value.cells,lg,uR] at ht ⊢
def pC(pl:List (Nat×Nat)):List (Nat×Value)→LV→Option (LV)
 | [],z=>some z
 | (i,v)::r,z=>match pl[i]? with
  | none=>none
  | some (off,sz)=>if uR v=false∧(lg v).length=sz then putK off (lg v) z fun z'=>pC pl r z' else none
theorem EG(off:Nat)(cs z:LV)(h:off+cs.length≤z.length):(cs.toArray.zipIdx.foldl (fun (a:Array Value) (p:Value×Nat)=>a.setIfInBounds (off+p.2) p.1) z.toArray)=(z.take off++cs++z.drop (off+cs.length)).toArray:=by
 have aux:∀(cs:LV) (k:Nat) (z:LV),off+k+cs.length≤z.length→(cs.zipIdx k).foldl (fun (a:Array Value) (p:Value×Nat)=>a.setIfInBounds (off+p.2) p.1) z.toArray=(z.take (off+k)++cs++z.drop (off+k+cs.length)).toArray:=by
  intro cs;induction cs with
  | nil=>intro k z _;simp
  | cons c cs ih =>
   intro k z hz;simp only[bD] at hz;simp only[List.zipIdx_cons,gn,List.setIfInBounds_toArray];rw[ih (k+1) (z.set (off+k) c) (by simp;omega)];congr 1;rw[show off+(k+1)=off+k+1 by omega,aC (by simp;omega),List.getElem_set_self,List.take_set_of_le ac,List.drop_set_of_lt ac];simp only[aH,ax,aq,bD];rw[show off+k+1+cs.length=off+k+(cs.length+1) by omega]
 have:=aux cs 0 z ac
 simpa using this
theorem qv(pl:List (Nat×Nat)):∀(vs:List (Nat×Value)) (z cs:LV),pC pl vs z=some cs→Instr.fill (fun i=>pl.toArray[i]?) z.toArray vs=some cs.toArray
 | [],z,cs,h=>by simp[pC] at h;simp[Instr.fill,h]
 | (i,v)::r,z,cs,h=>by
  simp only[pC] at h;cases h1:pl[i]? with
  | none=>rw[h1] at h;cases h
  | some p =>
   obtain⟨off,sz⟩:=p;rw[h1] at h;simp only at h;by_cases hc:uR v=false∧(lg v).length=sz
   ·rw[if_pos hc] at h;obtain⟨h3,h4⟩:=pJ _ _ _ _ _ h;have ih:=qv pl r _ _ h4;have hsz:=hc.2;simp only[Instr.fill,List.getElem?_toArray,h1,Ch v hc.1,List.size_toArray];have hno:¬(decide ((lg v).length≠sz) || decide (off+(lg v).length>z.length))=true:=by simp[hsz];omega
    rw[if_neg hno,EG off (lg v) z h3];simp only[List.getElem?_toArray] at ih;exact ih
   ·rw[if_neg hc] at h;cases h
theorem qu{α:Type}{enc:α→LV}{sz:Nat}(e:α):∀{xs:List α} {j:Nat},(∀x∈xs,(enc x).length=sz)→j<xs.length→(xs.set j e).flatMap enc=(xs.flatMap enc).take (j*sz)++enc e++(xs.flatMap enc).drop (j*sz+sz)
 | [],j,_,h=>by simp at h
 | x::xs,0,hs,_=>by
  have hx:=hs x (aw ..);simp only[List.set_cons_zero,bY,Nat.zero_mul,ce,aq,de];rw[←hx,List.drop_left]
 | x::xs,j+1,hs,h=>by
  have hx:=hs x (aw ..);have ih:=qu e (xs:=xs) (j:=j) (fun y hy=>hs y (av _ hy)) (by simpa using h);simp only[List.set_cons_succ,bY,ih];rw[show(j+1)*sz=(enc x).length+j*sz by rw[hx,Nat.succ_mul];omega,List.take_length_add_append,dH,List.drop_length_add_append];simp only[aH]
section
variable {P:Program}{N:Nat}{env:Env}{L:LH}{ty:TypeId}{v:Value}
theorem Ev.A6{t:TypeId}{ps:Array (Nat×Operand)}{vs:List (Nat×Value)}{pl:List (Nat×Nat)}{z cs:LV}[hs:TyStruct P t pl][hz:ZeroT P t z](hv:kq env ps.toList=some vs)(hc:pC pl vs z=some cs):Ev P L env (.build t ps) ty (.agg cs.toArray) :=
 Ev.mk (fun θ R ρ w ea s _ _ _ _=>by
  obtain⟨z0,h1,h2⟩:=hz.run w;have he:=hs.eq;cases hu:P.underlying t with
  | none=>rw[hu] at he;cases he
  | some dsc =>
   rw[hu] at he;cases dsc<;>simp[qL] at he;rename_i fs;have hm:=mQ (P:=P) (w:=w) fs.toList pl (by simpa using he)
   have hargs:ps.map (fun p=>(p.1,ρ p.2))=vs.toArray:=by
    apply Array.ext';simpa using ea.pairs ps.toList vs hv
   have hm' : (fs.mapM fun (f:Field)=>do pure (f.offset,←sizeOf f.type)).run P w=.ok pl.toArray w:=by
    have e:fs=fs.toList.toArray:=by simp
    rw[e,List.mapM_toArray];simp only[Sem.run_map,hm,Result.andThen_ok]
   have hf:=qv pl vs z cs hc;simp only[execOp,hargs,Instr.build,Sem.run_bind,h1,Result.andThen_ok,run_underlying hu,hm',h2];simp only[hf];simp)
theorem Ev.d9{t:TypeId}{x:Operand}{b o T n:Nat}{cs vs:LV}{Rest:LH}[ht:TyAgg P t n][hp:PickObj L b T cs Rest](hx:evE env x=some (.pointer (some ⟨b,o,none⟩)))(hs:subK o n cs some=some vs):Ev P L env (.load t x) ty (.agg vs.toArray) :=
 Ev.mk (fun θ R _ w ea s _ _ _ _=>by
  obtain⟨h1,h2⟩:=sH _ _ _ _ _ hs;simp only[Option.some.injEq] at h2;subst h2;have hb:=s.obj_heap hp.perm
  have hl:=run_loadCells_list (P:=P) w ⟨b,o,none⟩ ((cs.drop o).take n) (fun j v hv=>by
   have hj:j<n:=by have:=(List.getElem?_eq_some_iff.1 hv).1;simp at this;omega
   rw[jo,el hb];simp[hj] at hv ⊢;exact hv)
  have hlen:((cs.drop o).take n).length=n:=by simp;omega
  rw[hlen] at hl;simp[execOp,aO ea hx,Instr.loadAt,Instr.sureAddr,loadVar,ht.run,TyAgg.sizeOf_run,hl])
theorem Ef.g9{t:TypeId}{x y:Operand}{b o T n:Nat}{cs vs cs' : LV}{Rest:LH}[ht:TyAgg P t n][hp:PickObj L b T cs Rest](hx:evE env x=some (.pointer (some ⟨b,o,none⟩)))(hy:evE env y=some (.agg vs.toArray))(hn:vs.length=n)(hs:putK o vs cs some=some cs')(h1:∀v∈vs,v.oneCell' = true)
  : Ef P L env (.store t x y) ty (fun _ L'=>L' = obj b T cs'::Rest) :=
 Ef.skip (fun θ R a w ea s dst pos af g=>by
  obtain⟨h2,h3⟩:=pJ _ _ _ _ _ hs;simp only[Option.some.injEq] at h3;subst h3;have s1:=s.perm (hp.perm.append_right R);have hb:w.heap[b]? = some (.cells cs.toArray T (0,0)):=s1.own_heap;have hst:=run_storeCells_at P b o T vs 0 cs.toArray w hb (by simp;omega) h1;refine⟨w.setRow b (cs.take o++vs++cs.drop (o+vs.length)).toArray,_,?_,rfl,?_⟩
  ·simp[execOp,aO ea hx,aO ea hy,Instr.storeAt,Instr.sureAddr,storeVar,TyAgg.sizeOf_run,Value.cells,hn] at hst ⊢;rw[hst];simp
  ·exact Sat.update s1 ⟨s.1.tape,s.1.os,s.1.output,s.1.drawn⟩ (setRow_heap w b _ _ T _ hb) (fun j x hj hx=>by rw[setRow_other w b j _ hj];exact hx))
theorem Ev.r6{t:TypeId}{x:Operand}{b m sz j o:Nat}{α:Type}[Inhabited α]{enc:α→LV}{xs:List α}[ht:TyOne P t][hr:Rds L (some ⟨b,0,none⟩) α enc sz xs]
  (hx:evE env x=some (.pointer (some ⟨b,m,none⟩))) (hm:m=j*sz+o) (hj:j<xs.length) (ho:o<sz) (hv:(enc xs[j]!)[o]? = some v):Ev P L env (.load t x) ty v:=by
 refine Ev.f7 (ad:=some ⟨b,0,none⟩) (sz:=sz) (j:=j) (o:=o) ?_ hj ho hv;rw[hx,hm];simp only[elP,gk,gd]
theorem Ef.e9{t:TypeId}{x y:Operand}{ad:OA}{sz j E cap:Nat}{α:Type}[Inhabited α]{enc:α→LV}{xs:List α}{Rest:LH}{vs:LV}(e:α)[ht:TyAgg P t sz][hp:PickOsl L ad α enc sz E cap xs Rest]
  (hx:evE env x=some (.pointer (elP ad sz j 0))) (hy:evE env y=some (.agg vs.toArray)) (he:enc e=vs) (hn:vs.length=sz) (h1:∀v∈vs,v.oneCell' = true) (hj:j<xs.length) :
  Ef P L env (.store t x y) ty (fun _ L'=>L' = osl enc sz E ad cap (xs.set j e)::Rest) :=
 Ef.skip (fun θ R ρ w ea s dst pos af g=>by
  have s1:=s.perm (hp.perm.append_right R);obtain⟨p1,p2,p3,p4⟩:=Sat.osl_parts s1;rcases p4 with⟨rfl,rfl⟩|⟨gb,cur,rfl,f1,f2,f3⟩
  ·omega
  ·have hb:w.heap[gb]? = some (.cells cur E (0,0)):=f3.own_heap;have hlen:(j+1)*sz≤xs.length*sz:=dz _ hj;rw[Nat.succ_mul] at hlen;have hcap:=dz sz p2;have hst:=run_storeCells_at P gb (j*sz) E vs 0 cur w hb ac h1
   have hel:∀y∈xs.set j e,(enc y).length=sz:=by
    intro y hy';rcases cK hy' with h|h
    ·exact p1 y h
    ·subst h;rw[he];exact hn
   have hx' : evE env x=some (.pointer (some ⟨gb,j*sz,none⟩)):=by rw[hx];simp only[elP,gk,gd,Nat.add_zero]
   refine⟨w.setRow gb (cur.toList.take (j*sz)++vs++cur.toList.drop (j*sz+sz)).toArray,_,?_,rfl,?_⟩
   ·simp[execOp,aO ea hx',aO ea hy,Instr.storeAt,Instr.sureAddr,storeVar,TyAgg.sizeOf_run,Value.cells,hn] at hst ⊢;rw[hst];simp
   ·have s3:Sat θ (own gb (.cells (cur.toList.take (j*sz)++vs++cur.toList.drop (j*sz+sz)).toArray E (0,0))::(Rest++R)) (w.setRow gb (cur.toList.take (j*sz)++vs++cur.toList.drop (j*sz+sz)).toArray) :=
     Sat.update f3 ⟨s.1.tape,s.1.os,s.1.output,s.1.drawn⟩ (setRow_heap w gb _ _ E _ hb) (fun k x hk hx=>by rw[setRow_other w gb k _ hk];exact hx)
    refine Sat.osl_mk (L:=Rest++R) s3 hel (by simpa using p2) p3 ?_ ?_
    ·simp[hn];omega
    ·have hl2:(cur.toList.take (j*sz)).length=j*sz:=by simp;omega
     rw[qu e p1 hj,←f2,he,bg,List.take_take,Nat.min_eq_left ac,List.drop_take];simp only;have hAv:(cur.toList.take (j*sz)++vs).length=j*sz+sz:=by rw[az,hl2,hn]
     rw[List.take_append,hAv,aD (l:=cur.toList.take (j*sz)++vs) ac])
theorem ti{α:Type}{enc:α→LV}{z:Array Value}{e:α}(he:enc e=z.toList)(hz:0<z.size)(n:Nat):((List.replicate n e).flatMap enc).toArray=madeCells z (n*z.size):=by
 apply Array.ext
 ·simp[madeCells,eO (enc:=enc) (sz:=z.size) (xs:=List.replicate n e) (fun x hx=>by rw[fH hx,he];simp)]
 ·intro i h1 h2;simp only[madeCells,Array.getElem_map,Array.getElem_range]
  have hlen:((List.replicate n e).flatMap enc).length=n*z.size:=by
   have:=eO (enc:=enc) (sz:=z.size) (xs:=List.replicate n e) (fun x hx=>by rw[fH hx,he];simp)
   simpa using this
  have hi:i<n*z.size:=by simpa [hlen] using h1
  have hq:i / z.size<n:=(fh hz).2 hi;have hr:=dI i hz;have hd:=fb i z.size;haveI:Inhabited α:=⟨e⟩
  have:=nX (enc:=enc) (sz:=z.size) (xs:=List.replicate n e) (fun x hx=>by rw[fH hx,he];simp) (j:=i / z.size) (o:=i % z.size) (by simpa using hq) hr
  rw[show i / z.size*z.size+i % z.size=i by rw[ee];exact hd] at this;rw[List.getElem!_eq_getElem?_getD,List.getElem?_replicate,if_pos hq] at this;simp only[Option.getD_some,he] at this;rw[List.getElem?_eq_getElem ac] at this;simp only[Array.getElem?_toList,Array.getElem?_eq_getElem hr,Option.some.injEq] at this;simp only[List.getElem_toArray,this];rw[getElem!_pos z (i % z.size) hr]
theorem Ef.g7{t:TypeId}{x y:Operand}{E sz bb:Nat}{z:LV}{α:Type}(enc:α→LV)(e:α){n c:Int}[ht:TySl P t E sz bb z](hx:evE env x=some (ab n))(hy:evE env y=some (ab c))(he:enc e=z)(h0:0≤n)(hc:n≤c)(h1:c*bb≤16777216)(h2:c≤1000000000) :
  Ef P L env (.makeSlice t x y) ty (fun v L'=>∃b,v=.slice (some ⟨b,0,none⟩) n.toNat c.toNat∧L' = osl enc sz E (some ⟨b,0,none⟩) c.toNat (List.replicate n.toNat e)::L) :=
 Ef.val (fun θ R a w ea s dst pos af g=>by
  obtain⟨ii,zz,i1,i2,i3,i4,i5⟩:=ht.parts;have hzl:zz.cells.size=sz:=by rw[←gr,i3];exact ht.zlen
  have hpos:=ht.pos;have hk:=run_make (P:=P) w t E ii zz ht.under i1 i2 .i64 .i64 n c h0 hc (by rw[i5,Int.mul_comm];omega) ac;rw[i4,←hzl,←ti (enc:=enc) (e:=e) (by rw[he,i3]) ac] at hk;refine⟨.slice (some ⟨w.heap.size,0,none⟩) n.toNat c.toNat,w.alloc (.cells ((List.replicate c.toNat e).flatMap enc).toArray E),_,by simp[execOp,aO ea hx,aO ea hy,hk],⟨_,rfl,rfl⟩,?_⟩;have s1:=s.alloc (o:=.cells ((List.replicate c.toNat e).flatMap enc).toArray E);have hel:∀(k:Nat),∀x∈List.replicate k e,(enc x).length=sz:=fun k x hx=>by rw[fH hx,he];exact ht.zlen
  refine Sat.osl_mk (enc:=enc) (sz:=sz) (cap:=c.toNat) (xs:=List.replicate n.toNat e) (L:=L++R) s1 (hel _) (by simp;omega) (by simp only[maxLen];omega) ?_ ?_
  ·simp only[List.size_toArray];rw[eO (hel _),List.length_replicate]
  ·have e1:List.replicate c.toNat e=List.replicate n.toNat e++List.replicate (c.toNat - n.toNat) e:=by
    rw[List.replicate_append_replicate];congr 1;omega
   rw[e1,cM];simp only;rw[List.take_append_of_le_length (by rw[eO (hel _)];exact aB _),aD (by rw[eO (hel _)];exact aB _)])
