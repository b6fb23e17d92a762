/- Lemmas. -/
import Derived.Test.YtlgpgjdggilkgaaGreatDoorEtaf
import Derived.Laws.Strings2
import Derived.Test.YtlgpgjdggilkgaaGreatDoorProg
import Derived.KernelRfl
set_option linter.all false
namespace Go.V
section
def iq(P:Program)(N:Nat)(rs:List ResultVar)(post:Value->Η->Prop):F4:=Ends P N rs post
section inp
variable {P:Program}{N ε:Nat}{env:Env}{L:Η}{Ξ:F4}{post:Value->Η->Prop}{ops:Array Oper}{cN:List Oper}{Μ:Nat}{ty:TypeId}{pos:String}{af:Array Edge}
theorem KX.g9{e:Exit}{rs:List ResultVar}(h:iq P N rs post e env L):iq P N rs post e env L:=h
def KX.Xr{e:Exit}(he:e=.ret\/e=.normal)(h:post (.tuple #[]) L):iq P N [] post e env L:=⟨he,λ_ _ _ s=>⟨[],L,C7.nil,s,h⟩⟩
def KX.Y2{e:Exit}{t:Nat}{v:Value}(he:e=.ret\/e=.normal)(K:env.lookup t=some v)(h:post v L):iq P N [.tmp t] post e env L:=⟨he,λ_ _ _ s=>⟨[v],L,C7.tmp K C7.nil,s,h⟩⟩
def KX.Y3{e:Exit}{t u:Nat}{v w:Value}(he:e=.ret\/e=.normal)(K:env.lookup t=some v)(T:env.lookup u=some w)(h:post (.tuple #[v,w]) L):iq P N [.tmp t,.tmp u] post e env L:=⟨he,λ_ _ _ s=>⟨[v,w],L,C7.tmp K (C7.tmp T C7.nil),s,h⟩⟩
def KX.Y4{e:Exit}{t u x:Nat}{v w y:Value}(he:e=.ret\/e=.normal)(K:env.lookup t=some v)(T:env.lookup u=some w)(h3:env.lookup x=some y)(h:post (.tuple #[v,w,y]) L):iq P N [.tmp t,.tmp u,.tmp x] post e env L:=⟨he,λ_ _ _ s=>⟨[v,w,y],L,C7.tmp K (C7.tmp T (C7.tmp h3 C7.nil)),s,h⟩⟩
def KX.Y5{e:Exit}{x b ac n:Nat}{t:TypeId}{cs:τ}{F9:Η}[ht:NT P t n][hp:PO L b ac cs F9](he:e=.ret\/e=.normal)(K:env.lookup x=some (av b))(hn:cs.length=n)(h:post (.agg cs.toArray) L):iq P N [.cell x t] post e env L :=
 ⟨he,λ_ _ _ s=>⟨[.agg cs.toArray],L,C7.cell K hn C7.nil,s,h⟩⟩
def KX.g8{e:Exit}{x b ac n u:Nat}{t:TypeId}{cs:τ}{w:Value}{F9:Η}[ht:NT P t n][hp:PO L b ac cs F9](he:e=.ret\/e=.normal)(K:env.lookup x=some (av b))(hn:cs.length=n)(T:env.lookup u=some w)(h:post (.tuple #[.agg cs.toArray,w]) L):iq P N [.cell x t,.tmp u] post e env L :=
 ⟨he,λ_ _ _ s=>⟨[.agg cs.toArray,w],L,C7.cell K hn (C7.tmp T C7.nil),s,h⟩⟩
variable {f:FuncId}{fn:Func}{c:Code}{rs:List ResultVar}{I:Array Operand}{ats:Array TypeId}{vs:τ}
def GO.j5(he:Enters P f)(hf:P.funcs[f]? = some fn)(hb:fn.body=some c)(hr:fn.results=rs.toArray)(hN:fn.ntmps=ε)(hv:fD env I.toList=some vs)(B : vs.length<=ε)(hd:Μ<N)
  (h:Α P ε c (Pa vs 0) L (iq P ε rs (λv Γ=>GO P N ops cN ((Μ,v)::env) Γ Ξ))):GO P N ops (⟨some Μ,.call { callee:=.value (.func f),args:=I,argTypes:=ats },ty,pos,af,none⟩::cN) env L Ξ :=
 GO.ef (Ef.d8 (Τ.body (args:=vs) ε he hf hb hr hN B h) hv) hd λ_ _ h=>h
def δ.d8{done:List Nat}{wk:List K4}{B:List PE}{i:Nat}(he:Enters P f)(hf:P.funcs[f]? = some fn)(hb:fn.body=some c)(hr:fn.results=rs.toArray)(hN:fn.ntmps=ε)(hv:fD env I.toList=some vs)(M : vs.length<=ε)(hd:Μ<N)
  (h:Α P ε c (Pa vs 0) L (iq P ε rs (λv Γ=>ms P N ops done i wk B [] ((Μ,v)::env) Γ Ξ))):δ P N ops done (.ef i) wk (some Μ) (.call { callee:=.value (.func f),args:=I,argTypes:=ats }) ty B env L Ξ :=
 δ.ef (Ef.d8 (Τ.body (args:=vs) ε he hf hb hr hN M h) hv) hd λ_ _ h=>h
theorem Ef.c7{x:Operand}{first cap:τ}{post:Value->Η->Prop}(c:Τ P f (first++vs++cap).toArray L post)(O:cq env x=some (.func (.func f) first.toArray cap.toArray))(hv:fD env I.toList=some vs) :
  Ef P L env (.call { callee:=.value x,args:=I,argTypes:=ats }) ty post:=by
 have h:=Ef.l7 (R':=[]) (ats:=ats) (ty:=ty) c O hv (by rw[aI];exact F.refl _);intro θ R a w o next F5 ha s K T hn
 exact h θ R a w o next F5 ha s K T (λv Γ cO ⟨L₁,hp,he⟩ s'=>hn v L₁ cO hp (by rw[he,aI] at s';exact s'))
theorem GO.g9{x:Operand}{first cap:τ}(O:cq env x=some (.func (.func f) first.toArray cap.toArray))(he:Enters P f)(hf:P.funcs[f]? = some fn)(hb:fn.body=some c)(hr:fn.results=rs.toArray)(hN:fn.ntmps=ε)(hv:fD env I.toList=some vs)(B : (first++vs++cap).length<=ε)(hd:Μ<N)
  (h:Α P ε c (Pa (first++vs++cap) 0) L (iq P ε rs (λv Γ=>GO P N ops cN ((Μ,v)::env) Γ Ξ))):GO P N ops (⟨some Μ,.call { callee:=.value x,args:=I,argTypes:=ats },ty,pos,af,none⟩::cN) env L Ξ :=
 GO.ef (Ef.c7 (Τ.body (args:=first++vs++cap) ε he hf hb hr hN B h) O hv) hd λ_ _ h=>h
def δ.d7{done:List Nat}{wk:List K4}{B:List PE}{i:Nat}{x:Operand}{first cap:τ}(O:cq env x=some (.func (.func f) first.toArray cap.toArray))(he:Enters P f)(hf:P.funcs[f]? = some fn)(hb:fn.body=some c)(hr:fn.results=rs.toArray)(hN:fn.ntmps=ε)(hv:fD env I.toList=some vs)(M : (first++vs++cap).length<=ε)(hd:Μ<N)
  (h:Α P ε c (Pa (first++vs++cap) 0) L (iq P ε rs (λv Γ=>ms P N ops done i wk B [] ((Μ,v)::env) Γ Ξ))):δ P N ops done (.ef i) wk (some Μ) (.call { callee:=.value x,args:=I,argTypes:=ats }) ty B env L Ξ :=
 δ.ef (Ef.c7 (Τ.body (args:=first++vs++cap) ε he hf hb hr hN M h) O hv) hd λ_ _ h=>h
def GO.ci[e:En P f fn ε](h:Α P ε c (Pa vs 0) L (iq P ε rs (λv Γ=>GO P N ops cN ((Μ,v)::env) Γ Ξ)))(hb:fn.body=some c:=by exact rfl)(hr:fn.results=rs.toArray:=by exact rfl)(hv:fD env I.toList=some vs:=by exact rfl)(Uc : vs.length<=ε:=by simp)(hd:Μ<N:=by decide):GO P N ops (⟨some Μ,.call { callee:=.value (.func f),args:=I,argTypes:=ats },ty,pos,af,none⟩::cN) env L Ξ:=GO.j5 e.en e.hf hb hr e.hN hv Uc hd h
def δ.ci{done:List Nat}{wk:List K4}{B:List PE}{i:Nat}[e:En P f fn ε](h:Α P ε c (Pa vs 0) L (iq P ε rs (λv Γ=>ms P N ops done i wk B [] ((Μ,v)::env) Γ Ξ)))(hb:fn.body=some c:=by exact rfl)(hr:fn.results=rs.toArray:=by exact rfl)(hv:fD env I.toList=some vs:=by exact rfl)(Uc : vs.length<=ε:=by simp)(hd:Μ<N:=by decide):δ P N ops done (.ef i) wk (some Μ) (.call { callee:=.value (.func f),args:=I,argTypes:=ats }) ty B env L Ξ:=δ.d8 e.en e.hf hb hr e.hN hv Uc hd h
def GO.cf{x:Operand}{first cap:τ}(O:cq env x=some (.func (.func f) first.toArray cap.toArray))[e:En P f fn ε](h:Α P ε c (Pa (first++vs++cap) 0) L (iq P ε rs (λv Γ=>GO P N ops cN ((Μ,v)::env) Γ Ξ)))(hb:fn.body=some c:=by exact rfl)(hr:fn.results=rs.toArray:=by exact rfl)(hv:fD env I.toList=some vs:=by exact rfl)(Uc : (first++vs++cap).length<=ε:=by simp)(hd:Μ<N:=by decide):GO P N ops (⟨some Μ,.call { callee:=.value x,args:=I,argTypes:=ats },ty,pos,af,none⟩::cN) env L Ξ:=GO.g9 O e.en e.hf hb hr e.hN hv Uc hd h
def δ.cf{done:List Nat}{wk:List K4}{B:List PE}{i:Nat}{x:Operand}{first cap:τ}(O:cq env x=some (.func (.func f) first.toArray cap.toArray))[e:En P f fn ε](h:Α P ε c (Pa (first++vs++cap) 0) L (iq P ε rs (λv Γ=>ms P N ops done i wk B [] ((Μ,v)::env) Γ Ξ)))(hb:fn.body=some c:=by exact rfl)(hr:fn.results=rs.toArray:=by exact rfl)(hv:fD env I.toList=some vs:=by exact rfl)(Uc : (first++vs++cap).length<=ε:=by simp)(hd:Μ<N:=by decide):δ P N ops done (.ef i) wk (some Μ) (.call { callee:=.value x,args:=I,argTypes:=ats }) ty B env L Ξ:=δ.d7 O e.en e.hf hb hr e.hN hv Uc hd h
def KX.Sz{φ ψ:Prop}(k:ψ)(h:Hid ψ->φ:=by intro k;(with_reducible apply KX.g9);first|refine KX.Xr (.inl rfl) (Hid.out k)|refine KX.Xr (.inr rfl) (Hid.out k)|refine KX.Y2 (.inl rfl) rfl (Hid.out k)|refine KX.Y3 (.inl rfl) rfl rfl (Hid.out k)|refine KX.Y4 (.inl rfl) rfl rfl rfl (Hid.out k)|refine KX.Y5 (.inl rfl) rfl bh (Hid.out k)|refine KX.g8 (.inl rfl) rfl bh rfl (Hid.out k)):φ:=h ⟨k⟩
def Ef.f5{x:Operand}{first cap:τ}{post:Value->Η->Prop}(O:cq env x=some (.func (.func f) first.toArray cap.toArray))(hv:fD env I.toList=some vs)(c:Τ P f (first++vs++cap).toArray L post) :
  Ef P L env (.call { callee:=.value x,args:=I,argTypes:=ats }) ty post:=Ef.c7 c O hv
end inp
end
section
class Ud (P:Program) (ac:Nat) (n η sz:outParam Nat):Prop where
 under:P.underlying ac=some (.array n η)
 size:(P.info? η).map (·.size)=some sz
def Ud.Re{P:Program}{ac n η sz:Nat}(h:Ud P ac n η sz)(w:World):(sizeOf η).run P w=.ok sz w:=by
 have K:=h.size;cases hi:P.info? η with
 | none=>rw[hi] at K;cases K
 | some i=>rw[hi] at K;simp at K;simp[sizeOf,typeInfo,hi,K]
def LF(a:Addr)(i j:Nat):(a.add i).add j=a.add (i+j):=by
 unfold Addr.add;by_cases hi:i=0
 .subst hi;simp
 .by_cases hj:j=0
  .subst hj;simp[hi]
  .have:i+j≠0:=D;simp[hi,hj,dh]
section
variable {P:Program}{N:Nat}{env:Env}{L:Η}{ty:TypeId}{v:Value}
def Ev.p6{t:TypeId}{x i:Operand}(h:Ev P L env (.index t x i) ty v):Ev P L env (.index t x i) ty v:=h
def Ev.l9{t:TypeId}{x i:Operand}{b o n η sz:Nat}{j:Int}{k:IntKind}[ht:Ud P t n η sz](O:cq env x=some (.pointer (some ⟨b,o,none⟩)))(hi:cq env i=some (.int k j))(h0:0<=j)(K:j<n) :
  Ev P L env (.indexAddr t x i) ty (.pointer (some ⟨b,o+j.toNat*sz,none⟩)) :=
 Ev.mk (λθ R _ w ea s _ _ _ _=>by
  simp[execOp,aJ ea O,aJ ea hi,Instr.indexAt,asIntOf,run_underlying ht.under,h0,K,ht.Re,iR,Instr.sureAddr])
def Ev.m7{t:TypeId}{x i:Operand}{ad:OA}{s' m o n η sz:Nat}{j:Int}{k:IntKind}{α:Type}{Ε:α->τ}{I:List α}[ht:Ud P t n η sz][hr:F2 L ad α Ε s' I](O:cq env x=some (.pointer (Pb ad s' m o)))(hi:cq env i=some (.int k j))(hm:m<I.length)(h0:0<=j)(K:j<n) :
  Ev P L env (.indexAddr t x i) ty (.pointer (Pb ad s' m (o+j.toNat*sz))) :=
 Ev.mk (λθ R _ w ea s _ _ _ _=>by
  obtain⟨_,T⟩:=hr.rd θ R w s;rcases T with T|⟨a,rfl,_⟩
  .subst T;simp at hm
  .simp[execOp,aJ ea O,aJ ea hi,Instr.indexAt,asIntOf,run_underlying ht.under,h0,K,ht.Re,Pb,Instr.sureAddr,LF,dh])
def EE{s:ByteArray}{i:Nat}(h:i<s.size):s[i]? = some (s.data[i]'(by simpa using h)):=by
 simp[h];rfl
def Ev.n9{t:TypeId}{x i:Operand}{s:ByteArray}{j:Int}{k:IntKind}[ht:UF P t](O:cq env x=some (.string s))(hi:cq env i=some (.int k j))(h0:0<=j)(K:j<s.size) :
  Ev P L env (.index t x i) ty (.int .u8 ((gt s)[j.toNat]!)) :=
 Ev.mk (λθ R _ w ea st _ _ _ _=>by
  have B:j.toNat<s.size:=D
  have hn:(gt s)[j.toNat]! = ((s.data[j.toNat]'(by simpa using B)).toNat:Int):=by
   rw[List.getElem!_eq_getElem?_getD,List.getElem?_eq_getElem (by rw[uq];exact B)];simp[gt]
  rw[hn];simp[execOp,aJ ea O,aJ ea hi,Instr.index,asIntOf,run_underlying ht.under,h0,EE B])
def Gq(s:ByteArray):∀x∈gt s,0<=x/\x<=255:=by
 intro x O;simp only[gt,List.mem_map] at O;obtain⟨y,_,rfl⟩:=O;have:=y.toNat_lt
 omega
def Ev.o8{t:TypeId}{x lo hi:Operand}{s:ByteArray}{k k' : IntKind}{i j:Int}[ht:UF P t](O:cq env x=some (.string s))(U:cq env lo=some (.int k i))(hh:cq env hi=some (.int k' j))(h0:0<=i)(K:i<=j)(T:j<=s.size) :
  Ev P L env (.slice t x (some lo) (some hi) none) ty (.string (s.extract i.toNat j.toNat)) :=
 Ev.mk (λθ R _ w ea st _ _ _ _=>by
  have h3:0<=j:=D;simp[execOp,aJ ea O,aJ ea U,aJ ea hh,Instr.sliceAt,Instr.slice,Instr.sliceBounds,Instr.sliceBound,asIntOf,run_underlying ht.under,h0,T,h3];intro h;exact hD h D)
def BT(s:ByteArray):s.extract 0 s.size=s:=by
 apply ByteArray.ext;simp
end
end
section
def SU:Nat->τ->τ->(τ->Option (τ))->Option (τ)
 | 0,[],z,k=>k z
 | 0,c::cs,_::z,k=>SU 0 cs z λr=>k (c::r)
 | o+1,cs,x::z,k=>SU o cs z λr=>k (x::r)
 | _,_,[],_=>none
def ry:∀(o:Nat) (cs z:τ) (k:τ->Option (τ)) (r:τ),SU o cs z k=some r->o+cs.length<=z.length/\k (z.take o++cs++z.drop (o+cs.length))=some r
 | 0,[],z,k,r,h=>by simpa [SU] using h
 | 0,c::cs,[],k,r,h=>by simp[SU] at h
 | 0,c::cs,_::z,k,r,h=>by
  simp only[SU] at h;have:=ry 0 cs z _ r h
  simp at this ⊢;exact this
 | o+1,cs,[],k,r,h=>by simp[SU] at h
 | o+1,cs,x::z,k,r,h=>by
  simp only[SU] at h;have:=ry o cs z _ r h
  rw[show o+1+cs.length=o+cs.length+1 by omega];simp at this ⊢;exact⟨D,this.2⟩
def SA:Nat->Nat->τ->(τ->Option (τ))->Option (τ)
 | 0,0,_,k=>k []
 | 0,n+1,x::z,k=>SA 0 n z λr=>k (x::r)
 | o+1,n,_::z,k=>SA o n z k
 | _,_,[],_=>none
def rq:∀(o n:Nat) (z:τ) (k:τ->Option (τ)) (r:τ),SA o n z k=some r->o+n<=z.length/\k ((z.drop o).take n)=some r
 | 0,0,z,k,r,h=>by cases z<;>simpa [SA] using h
 | 0,n+1,[],k,r,h=>by simp[SA] at h
 | 0,n+1,x::z,k,r,h=>by
  simp only[SA] at h;have:=rq 0 n z _ r h
  simp at this ⊢;exact this
 | o+1,n,[],k,r,h=>by cases n<;>simp[SA] at h
 | o+1,n,x::z,k,r,h=>by
  have h' : SA o n z k=some r:=by cases n<;>simpa only[SA] using h
  have:=rq o n z _ r h'
  rw[show o+1+n=o+n+1 by omega];simp at this ⊢;exact this
def lV:Value->τ
 | .agg cs=>cs.toList
 | v=>[v]
def xq:Value->Bool
 | .tuple _=>true
 | _=>false
def FB(v:Value)(ht:xq v=false):v.cells=(lV v).toArray:=by
 cases v<;>simp[Value.cells,lV,xq] at ht ⊢
def rh(pl:List (Nat×Nat)):List (Nat×Value)->τ->Option (τ)
 | [],z=>some z
 | (i,v)::r,z=>match pl[i]? with
  | none=>none
  | some (off,sz)=>if xq v=false/\(lV v).length=sz then SU off (lV v) z λz'=>rh pl r z' else none
def Jm(off:Nat)(cs z:τ)(h:off+cs.length<=z.length):(cs.toArray.zipIdx.foldl (λ (a:Array Value) (p:Value×Nat)=>a.setIfInBounds (off+p.2) p.1) z.toArray)=(z.take off++cs++z.drop (off+cs.length)).toArray:=by
 have B:∀(cs:τ) (k:Nat) (z:τ),off+k+cs.length<=z.length->(cs.zipIdx k).foldl (λ (a:Array Value) (p:Value×Nat)=>a.setIfInBounds (off+p.2) p.1) z.toArray=(z.take (off+k)++cs++z.drop (off+k+cs.length)).toArray:=by
  intro cs;induction cs with
  | nil=>intro k z _;simp
  | cons c cs ih =>
   intro k z hz;simp only[aK] at hz;simp only[List.zipIdx_cons,List.foldl_cons,List.setIfInBounds_toArray];rw[ih (k+1) (z.set (off+k) c) hZ];congr 1;rw[show off+(k+1)=off+k+1 by omega,aB hZ,List.getElem_set_self,List.take_set_of_le D,List.drop_set_of_lt D];simp only[aH,au,ax,aK];rw[show off+k+1+cs.length=off+k+(cs.length+1) by omega]
 have:=B cs 0 z D
 simpa using this
def sy(pl:List (Nat×Nat)):∀(vs:List (Nat×Value)) (z cs:τ),rh pl vs z=some cs->Instr.fill (λi=>pl.toArray[i]?) z.toArray vs=some cs.toArray
 | [],z,cs,h=>by simp[rh] at h;simp[Instr.fill,h]
 | (i,v)::r,z,cs,h=>by
  simp only[rh] at h;cases K:pl[i]? with
  | none=>rw[K] at h;cases h
  | some p =>
   obtain⟨off,sz⟩:=p;rw[K] at h;simp only at h;by_cases hc:xq v=false/\(lV v).length=sz
   .rw[Χ hc] at h;obtain⟨h3,h4⟩:=ry _ _ _ _ _ h;have ih:=sy pl r _ _ h4;have M:=hc.2;simp only[Instr.fill,List.getElem?_toArray,K,FB v hc.1,gH];have B:¬(decide ((lV v).length≠sz) || decide (off+(lV v).length>z.length))=true:=by simp[M];omega
    rw[Ν B,Jm off (lV v) z h3];simp only[List.getElem?_toArray] at ih;exact ih
   .rw[Ν hc] at h;cases h
def sx{α:Type}{Ε:α->τ}{sz:Nat}(e:α):∀{I:List α} {j:Nat},(∀x∈I,(Ε x).length=sz)->j<I.length->(I.set j e).flatMap Ε=(I.flatMap Ε).take (j*sz)++Ε e++(I.flatMap Ε).drop (j*sz+sz)
 | [],j,_,h=>by simp at h
 | x::I,0,hs,_=>by
  have O:=hs x (aA ..);simp only[fR,aT,Nat.zero_mul,bj,ax,dw];rw[<-O,List.drop_left]
 | x::I,j+1,hs,h=>by
  have O:=hs x (aA ..);have ih:=sx e (I:=I) (j:=j) (λy Y=>hs y (az _ Y)) (by simpa using h);simp only[List.set_cons_succ,aT,ih];rw[show(j+1)*sz=(Ε x).length+j*sz by rw[O,ic];omega,List.take_length_add_append,dh,List.drop_length_add_append];simp only[aH]
section
variable {P:Program}{N:Nat}{env:Env}{L:Η}{ty:TypeId}{v:Value}
def Ev.u4{t:TypeId}{ps:Array (Nat×Operand)}{vs:List (Nat×Value)}{pl:List (Nat×Nat)}{z cs:τ}[hs:OW P t pl][hz:NC P t z](hv:kO env ps.toList=some vs)(hc:rh pl vs z=some cs):Ev P L env (.build t ps) ty (.agg cs.toArray) :=
 Ev.mk (λθ R ρ w ea s _ _ _ _=>by
  obtain⟨z0,K,T⟩:=hz.run w;have he:=hs.eq;cases hu:P.underlying t with
  | none=>rw[hu] at he;cases he
  | some Wj =>
   rw[hu] at he;cases Wj<;>simp[sP] at he;rename_i fs;have hm:=oy (P:=P) (w:=w) fs.toList pl (by simpa using he)
   have B:ps.map (λp=>(p.1,ρ p.2))=vs.toArray:=by
    apply Array.ext';simpa using ea.pairs ps.toList vs hv
   have M : (fs.mapM λ (f:Field)=>do pure (f.offset,<-sizeOf f.type)).run P w=.ok pl.toArray w:=by
    have e:fs=fs.toList.toArray:=by simp
    rw[e,List.mapM_toArray];simp only[Sem.run_map,hm,Result.andThen_ok]
   have hf:=sy pl vs z cs hc;simp only[execOp,B,Instr.build,Sem.run_bind,K,Result.andThen_ok,run_underlying hu,M,T];simp only[hf];simp)
def Ev.c8{t:TypeId}{x:Operand}{b o ac n:Nat}{cs vs:τ}{F9:Η}[ht:NT P t n][hp:PO L b ac cs F9](O:cq env x=some (.pointer (some ⟨b,o,none⟩)))(hs:SA o n cs some=some vs):Ev P L env (.load t x) ty (.agg vs.toArray) :=
 Ev.mk (λθ R _ w ea s _ _ _ _=>by
  obtain⟨K,T⟩:=rq _ _ _ _ _ hs;simp only[Option.some.injEq] at T;subst T;have hb:=s.T5 hp.perm
  have U:=run_loadCells_list (P:=P) w ⟨b,o,none⟩ ((cs.drop o).take n) (λj v hv=>by
   have hj:j<n:=by have:=(List.getElem?_eq_some_iff.1 hv).1;simp at this;omega
   rw[iR,eh hb];simp[hj] at hv ⊢;exact hv)
  have B:((cs.drop o).take n).length=n:=by simp;omega
  rw[B] at U;simp[execOp,aJ ea O,Instr.loadAt,Instr.sureAddr,loadVar,ht.run,NT.Re,U])
def Ef.f7{t:TypeId}{x y:Operand}{b o ac n:Nat}{cs vs B : τ}{F9:Η}[ht:NT P t n][hp:PO L b ac cs F9](O:cq env x=some (.pointer (some ⟨b,o,none⟩)))(Y:cq env y=some (.agg vs.toArray))(hn:vs.length=n)(hs:SU o vs cs some=some B)(K:∀v∈vs,v.oneCell' = true)
  : Ef P L env (.store t x y) ty (λ_ Γ=>Γ = obj b ac B::F9) :=
 Ef.skip (λθ R a w ea s a2 pos af g=>by
  obtain⟨T,h3⟩:=ry _ _ _ _ _ hs;simp only[Option.some.injEq] at h3;subst h3;have s1:=s.perm (hp.perm.append_right R);have hb:w.heap[b]? = some (.cells cs.toArray ac (0,0)):=s1.Nr;have M:=run_storeCells_at P b o ac vs 0 cs.toArray w hb hZ K;refine⟨w.setRow b (cs.take o++vs++cs.drop (o+vs.length)).toArray,_,?_,rfl,?_⟩
  .simp[execOp,aJ ea O,aJ ea Y,Instr.storeAt,Instr.sureAddr,storeVar,NT.Re,Value.cells,hn] at M ⊢;rw[M];simp
  .exact Sat.update s1 ⟨s.1.tape,s.1.os,s.1.output,s.1.drawn⟩ (setRow_heap w b _ _ ac _ hb) (λj x hj O=>by rw[setRow_other w b j _ hj];exact O))
def Ev.k7{t:TypeId}{x:Operand}{b m sz j o:Nat}{α:Type}[Inhabited α]{Ε:α->τ}{I:List α}[ht:L6 P t][hr:F2 L (some ⟨b,0,none⟩) α Ε sz I]
  (O:cq env x=some (.pointer (some ⟨b,m,none⟩))) (hm:m=j*sz+o) (hj:j<I.length) (ho:o<sz) (hv:(Ε I[j]!)[o]? = some v):Ev P L env (.load t x) ty v:=by
 refine Ev.f5 (ad:=some ⟨b,0,none⟩) (sz:=sz) (j:=j) (o:=o) ?_ hj ho hv;rw[O,hm];simp only[Pb,fm,fT]
def Ef.k7{t:TypeId}{x y:Operand}{ad:OA}{sz j η cap:Nat}{α:Type}[Inhabited α]{Ε:α->τ}{I:List α}{F9:Η}{vs:τ}(e:α)[ht:NT P t sz][hp:Se L ad α Ε sz η cap I F9]
  (O:cq env x=some (.pointer (Pb ad sz j 0))) (Y:cq env y=some (.agg vs.toArray)) (he:Ε e=vs) (hn:vs.length=sz) (K:∀v∈vs,v.oneCell' = true) (hj:j<I.length) :
  Ef P L env (.store t x y) ty (λ_ Γ=>Γ = Ω Ε sz η ad cap (I.set j e)::F9) :=
 Ef.skip (λθ R ρ w ea s b0 pos af g=>by
  have s1:=s.perm (hp.perm.append_right R);obtain⟨p1,p2,p3,p4⟩:=Sat.QY s1;rcases p4 with⟨rfl,rfl⟩|⟨gb,B,rfl,f1,f2,f3⟩
  .omega
  .have hb:w.heap[gb]? = some (.cells B η (0,0)):=f3.Nr;have M:(j+1)*sz<=I.length*sz:=bR _ hj;rw[ic] at M;have a4:=bR sz p2;have a2:=run_storeCells_at P gb (j*sz) η vs 0 B w hb D K
   have a5:∀y∈I.set j e,(Ε y).length=sz:=by
    intro y a9;rcases List.mem_or_eq_of_mem_set a9 with h|h
    .exact p1 y h
    .subst h;rw[he];exact hn
   have a7 : cq env x=some (.pointer (some ⟨gb,j*sz,none⟩)):=by rw[O];simp only[Pb,fm,fT,dx]
   refine⟨w.setRow gb (B.toList.take (j*sz)++vs++B.toList.drop (j*sz+sz)).toArray,_,?_,rfl,?_⟩
   .simp[execOp,aJ ea a7,aJ ea Y,Instr.storeAt,Instr.sureAddr,storeVar,NT.Re,Value.cells,hn] at a2 ⊢;rw[a2];simp
   .have s3:Sat θ (jC gb (.cells (B.toList.take (j*sz)++vs++B.toList.drop (j*sz+sz)).toArray η (0,0))::(F9++R)) (w.setRow gb (B.toList.take (j*sz)++vs++B.toList.drop (j*sz+sz)).toArray) :=
     Sat.update f3 ⟨s.1.tape,s.1.os,s.1.output,s.1.drawn⟩ (setRow_heap w gb _ _ η _ hb) (λk x hk O=>by rw[setRow_other w gb k _ hk];exact O)
    refine Sat.RO (L:=F9++R) s3 a5 (by simpa using p2) p3 ?_ ?_
    .simp[hn];omega
    .have a6:(B.toList.take (j*sz)).length=j*sz:=by simp;omega
     rw[sx e p1 hj,<-f2,he,bT,List.take_take,dF D,List.drop_take];simp only;have a3:(B.toList.take (j*sz)++vs).length=j*sz+sz:=by rw[ay,a6,hn]
     rw[List.take_append,a3,aM (l:=B.toList.take (j*sz)++vs) D])
def vE{α:Type}{Ε:α->τ}{z:Array Value}{e:α}(he:Ε e=z.toList)(hz:0<z.size)(n:Nat):((List.replicate n e).flatMap Ε).toArray=madeCells z (n*z.size):=by
 apply Array.ext
 .simp[madeCells,db (Ε:=Ε) (sz:=z.size) (I:=List.replicate n e) (λx O=>by rw[fM O,he];simp)]
 .intro i K T;simp only[madeCells,Array.getElem_map,Array.getElem_range]
  have B:((List.replicate n e).flatMap Ε).length=n*z.size:=by
   have:=db (Ε:=Ε) (sz:=z.size) (I:=List.replicate n e) (λx O=>by rw[fM O,he];simp)
   simpa using this
  have hi:i<n*z.size:=by simpa [B] using K
  have hq:i / z.size<n:=(fu hz).2 hi;have hr:=dX i hz;have hd:=fO i z.size;haveI:Inhabited α:=⟨e⟩
  have:=nz (Ε:=Ε) (sz:=z.size) (I:=List.replicate n e) (λx O=>by rw[fM O,he];simp) (j:=i / z.size) (o:=i % z.size) (by simpa using hq) hr
  rw[show i / z.size*z.size+i % z.size=i by rw[Nat.mul_comm];exact hd] at this;rw[List.getElem!_eq_getElem?_getD,List.getElem?_replicate,Χ hq] at this;simp only[Option.getD_some,he] at this;rw[List.getElem?_eq_getElem D] at this;simp only[Array.getElem?_toList,Array.getElem?_eq_getElem hr,Option.some.injEq] at this;simp only[List.getElem_toArray,this];rw[getElem!_pos z (i % z.size) hr]
def Ef.j5{t:TypeId}{x y:Operand}{η sz bb:Nat}{z:τ}{α:Type}(Ε:α->τ)(e:α){n c:Int}[ht:M7 P t η sz bb z](O:cq env x=some (J n))(Y:cq env y=some (J c))(he:Ε e=z)(h0:0<=n)(hc:n<=c)(K:c*bb<=16777216)(T:c<=1000000000) :
  Ef P L env (.makeSlice t x y) ty (λv Γ=>∃b,v=.slice (some ⟨b,0,none⟩) n.toNat c.toNat/\Γ = Ω Ε sz η (some ⟨b,0,none⟩) c.toNat (List.replicate n.toNat e)::L) :=
 Ef.val (λθ R a w ea s a3 pos af g=>by
  obtain⟨ii,zz,i1,i2,i3,i4,i5⟩:=ht.Β;have a2:zz.cells.size=sz:=by rw[<-ec,i3];exact ht.TJ
  have M:=ht.pos;have hk:=run_make (P:=P) w t η ii zz ht.under i1 i2 .i64 .i64 n c h0 hc (by rw[i5,Int.mul_comm];omega) D;rw[i4,<-a2,<-vE (Ε:=Ε) (e:=e) (by rw[he,i3]) D] at hk;refine⟨.slice (some ⟨w.heap.size,0,none⟩) n.toNat c.toNat,w.alloc (.cells ((List.replicate c.toNat e).flatMap Ε).toArray η),_,by simp[execOp,aJ ea O,aJ ea Y,hk],⟨_,rfl,rfl⟩,?_⟩;have s1:=s.alloc (o:=.cells ((List.replicate c.toNat e).flatMap Ε).toArray η);have B:∀(k:Nat),∀x∈List.replicate k e,(Ε x).length=sz:=λk x O=>by rw[fM O,he];exact ht.TJ
  refine Sat.RO (Ε:=Ε) (sz:=sz) (cap:=c.toNat) (I:=List.replicate n.toNat e) (L:=L++R) s1 (B _) hZ (by simp only[maxLen];omega) ?_ ?_
  .simp only[gH];rw[db (B _),List.length_replicate]
  .have e1:List.replicate c.toNat e=List.replicate n.toNat e++List.replicate (c.toNat - n.toNat) e:=by
    rw[List.replicate_append_replicate];congr 1;omega
   rw[e1,dL];simp only;rw[List.take_append_of_le_length (by rw[db (B _)];exact an _),aM (by rw[db (B _)];exact an _)])
end
end
end Go.V
namespace Go.Proofs.YtlgpgjdggilkgaaGreatDoor
open Go.V
noncomputable abbrev Θ:=Tryz.prog
instance:L6 Θ 3:=⟨λ_=>Ζ,Ζ⟩
instance:QX Θ 3 .i64:=⟨Ζ⟩
instance:NC Θ 3 [J 0]:=⟨Ζ⟩
instance:L6 Θ 4:=⟨λ_=>Ζ,Ζ⟩
instance:L6 Θ 5:=⟨λ_=>Ζ,Ζ⟩
instance:QX Θ 5 .u8:=⟨Ζ⟩
instance:L6 Θ 9:=⟨λ_=>Ζ,Ζ⟩
instance:UF Θ 9:=⟨Ζ⟩
instance:L6 Θ 22:=⟨λ_=>Ζ,Ζ⟩
instance:M7 Θ 22 3 1 8 [J 0]:=⟨Ζ,Ζ,by decide,by decide⟩
instance:NC Θ 22 [ah none 0 0]:=⟨Ζ⟩
instance:M7 Θ 27 34 5 56 [J 0,J 0,J 0,ah none 0 0,J 0]:=⟨Ζ,Ζ,by decide,by decide⟩
instance:L6 Θ 29:=⟨λ_=>Ζ,Ζ⟩
instance:NC Θ 29 [J 0]:=⟨Ζ⟩
instance:L6 Θ 32:=⟨λ_=>Ζ,Ζ⟩
instance:M7 Θ 32 65 5 56 [J 0,J 0,J 0,J 0,ah none 0 0]:=⟨Ζ,Ζ,by decide,by decide⟩
instance:NT Θ 34 5:=⟨λ_=>Ζ,Ζ⟩
instance:cM Θ 34 0 0:=cM.of 0 Ζ
instance:cM Θ 34 1 1:=cM.of 0 Ζ
instance:cM Θ 34 2 2:=cM.of 0 Ζ
instance:cM Θ 34 3 3:=cM.of 0 Ζ
instance:cM Θ 34 4 4:=cM.of 0 Ζ
instance:OW Θ 34 [(0,1),(1,1),(2,1),(3,1),(4,1)]:=⟨Ζ⟩
instance:NC Θ 34 [J 0,J 0,J 0,ah none 0 0,J 0]:=⟨Ζ⟩
instance:L6 Θ 35:=⟨λ_=>Ζ,Ζ⟩
instance:M7 Θ 35 47 3 24 [J 0,J 0,J 0]:=⟨Ζ,Ζ,by decide,by decide⟩
instance:NC Θ 35 [ah none 0 0]:=⟨Ζ⟩
instance:L6 Θ 36:=⟨λ_=>Ζ,Ζ⟩
instance:M7 Θ 36 45 11 120 [J 0,J 0,J 0,J 0,J 0,J 0,J 0,J 0,J 0,ah none 0 0,ah none 0 0]:=⟨Ζ,Ζ,by decide,by decide⟩
instance:L6 Θ 37:=⟨λ_=>Ζ,Ζ⟩
instance:UE Θ 37:=⟨⟨130,Ζ⟩⟩
instance:L6 Θ 38:=⟨λ_=>Ζ,Ζ⟩
instance:M7 Θ 38 37 1 8 [.pointer none]:=⟨Ζ,Ζ,by decide,by decide⟩
instance:L6 Θ 39:=⟨λ_=>Ζ,Ζ⟩
instance:M7 Θ 39 62 1 8 [.pointer none]:=⟨Ζ,Ζ,by decide,by decide⟩
instance:L6 Θ 40:=⟨λ_=>Ζ,Ζ⟩
instance:M7 Θ 40 98 3 40 [J 0,J 0,ah none 0 0]:=⟨Ζ,Ζ,by decide,by decide⟩
instance:NC Θ 40 [ah none 0 0]:=⟨Ζ⟩
instance:cM Θ 42 0 0:=cM.of 0 Ζ
instance:cM Θ 42 1 1:=cM.of 0 Ζ
instance:cM Θ 42 2 2:=cM.of 0 Ζ
instance:cM Θ 42 3 3:=cM.of 0 Ζ
instance:cM Θ 42 4 4:=cM.of 0 Ζ
instance:OW Θ 42 [(0,1),(1,1),(2,1),(3,1),(4,1)]:=⟨Ζ⟩
instance:NC Θ 42 [ah none 0 0,ah none 0 0,ah none 0 0,J 0,ah none 0 0]:=⟨Ζ⟩
instance:NT Θ 45 11:=⟨λ_=>Ζ,Ζ⟩
instance:cM Θ 45 0 0:=cM.of 0 Ζ
instance:cM Θ 45 2 2:=cM.of 0 Ζ
instance:cM Θ 45 8 8:=cM.of 0 Ζ
instance:cM Θ 45 9 9:=cM.of 0 Ζ
instance:cM Θ 45 10 10:=cM.of 0 Ζ
instance:OW Θ 45 [(0,1),(1,1),(2,1),(3,1),(4,1),(5,1),(6,1),(7,1),(8,1),(9,1),(10,1)]:=⟨Ζ⟩
instance:NC Θ 45 [J 0,J 0,J 0,J 0,J 0,J 0,J 0,J 0,J 0,ah none 0 0,ah none 0 0]:=⟨Ζ⟩
instance:NT Θ 47 3:=⟨λ_=>Ζ,Ζ⟩
instance:cM Θ 47 0 0:=cM.of 0 Ζ
instance:cM Θ 47 1 1:=cM.of 0 Ζ
instance:cM Θ 47 2 2:=cM.of 0 Ζ
instance:OW Θ 47 [(0,1),(1,1),(2,1)]:=⟨Ζ⟩
instance:NC Θ 47 [J 0,J 0,J 0]:=⟨Ζ⟩
instance:L6 Θ 48:=⟨λ_=>Ζ,Ζ⟩
instance:M7 Θ 55 56 1 24 [ah none 0 0]:=⟨Ζ,Ζ,by decide,by decide⟩
instance:L6 Θ 56:=⟨λ_=>Ζ,Ζ⟩
instance:M7 Θ 56 73 3 24 [J 0,J 0,J 0]:=⟨Ζ,Ζ,by decide,by decide⟩
instance:M7 Θ 58 32 1 24 [ah none 0 0]:=⟨Ζ,Ζ,by decide,by decide⟩
instance:M7 Θ 60 22 1 24 [ah none 0 0]:=⟨Ζ,Ζ,by decide,by decide⟩
instance:QX Θ 61 .u64:=⟨Ζ⟩
instance:L6 Θ 62:=⟨λ_=>Ζ,Ζ⟩
instance:UE Θ 62:=⟨⟨147,Ζ⟩⟩
instance:L6 Θ 63:=⟨λ_=>Ζ,Ζ⟩
instance:M7 Θ 63 67 2 16 [J 0,J 0]:=⟨Ζ,Ζ,by decide,by decide⟩
instance:NT Θ 65 5:=⟨λ_=>Ζ,Ζ⟩
instance:cM Θ 65 0 0:=cM.of 0 Ζ
instance:cM Θ 65 1 1:=cM.of 0 Ζ
instance:cM Θ 65 2 2:=cM.of 0 Ζ
instance:cM Θ 65 3 3:=cM.of 0 Ζ
instance:cM Θ 65 4 4:=cM.of 0 Ζ
instance:OW Θ 65 [(0,1),(1,1),(2,1),(3,1),(4,1)]:=⟨Ζ⟩
instance:NC Θ 65 [J 0,J 0,J 0,J 0,ah none 0 0]:=⟨Ζ⟩
instance:NT Θ 67 2:=⟨λ_=>Ζ,Ζ⟩
instance:cM Θ 67 0 0:=cM.of 0 Ζ
instance:cM Θ 67 1 1:=cM.of 0 Ζ
instance:OW Θ 67 [(0,1),(1,1)]:=⟨Ζ⟩
instance:NC Θ 67 [J 0,J 0]:=⟨Ζ⟩
instance:cM Θ 73 0 0:=cM.of 0 Ζ
instance:cM Θ 73 1 1:=cM.of 0 Ζ
instance:cM Θ 73 2 2:=cM.of 0 Ζ
instance:OW Θ 73 [(0,1),(1,1),(2,1)]:=⟨Ζ⟩
instance:NC Θ 73 [J 0,J 0,J 0]:=⟨Ζ⟩
instance:L6 Θ 85:=⟨λ_=>Ζ,Ζ⟩
instance:M7 Θ 85 134 5 56 [J 0,J 0,J 0,J 0,ah none 0 0]:=⟨Ζ,Ζ,by decide,by decide⟩
instance:NT Θ 87 7:=⟨λ_=>Ζ,Ζ⟩
instance:cM Θ 87 0 0:=cM.of 0 Ζ
instance:cM Θ 87 1 1:=cM.of 0 Ζ
instance:cM Θ 87 2 2:=cM.of 0 Ζ
instance:cM Θ 87 3 3:=cM.of 0 Ζ
instance:cM Θ 87 4 4:=cM.of 0 Ζ
instance:cM Θ 87 5 5:=cM.of 0 Ζ
instance:cM Θ 87 6 6:=cM.of 0 Ζ
instance:OW Θ 87 [(0,1),(1,1),(2,1),(3,1),(4,1),(5,1),(6,1)]:=⟨Ζ⟩
instance:NC Θ 87 [J 0,J 0,J 0,J 0,J 0,J 0,ah none 0 0]:=⟨Ζ⟩
instance:L6 Θ 89:=⟨λ_=>Ζ,Ζ⟩
instance:M7 Θ 89 135 5 56 [J 0,J 0,J 0,J 0,ah none 0 0]:=⟨Ζ,Ζ,by decide,by decide⟩
instance:L6 Θ 96:=⟨λ_=>Ζ,Ζ⟩
instance:M7 Θ 96 5 1 1 [.int .u8 0]:=⟨Ζ,Ζ,by decide,by decide⟩
instance:NT Θ 98 3:=⟨λ_=>Ζ,Ζ⟩
instance:cM Θ 98 0 0:=cM.of 0 Ζ
instance:cM Θ 98 1 1:=cM.of 0 Ζ
instance:cM Θ 98 2 2:=cM.of 0 Ζ
instance:OW Θ 98 [(0,1),(1,1),(2,1)]:=⟨Ζ⟩
instance:NC Θ 98 [J 0,J 0,ah none 0 0]:=⟨Ζ⟩
instance:L6 Θ 111:=⟨λ_=>Ζ,Ζ⟩
instance:M7 Θ 111 214 7 48 [.string ⟨#[]⟩,.bool false,.bool false,.bool false,J 0,J 0,J 0]:=⟨Ζ,Ζ,by decide,by decide⟩
instance:L6 Θ 112:=⟨λ_=>Ζ,Ζ⟩
instance:M7 Θ 112 267 9 128 [.string ⟨#[]⟩,.bool false,J 0,J 0,J 0,J 0,ah none 0 0,ah none 0 0,ah none 0 0]:=⟨Ζ,Ζ,by decide,by decide⟩
instance:L6 Θ 113:=⟨λ_=>Ζ,Ζ⟩
instance:M7 Θ 113 272 2 40 [.string ⟨#[]⟩,ah none 0 0]:=⟨Ζ,Ζ,by decide,by decide⟩
instance:L6 Θ 114:=⟨λ_=>Ζ,Ζ⟩
instance:M7 Θ 114 277 2 40 [.string ⟨#[]⟩,ah none 0 0]:=⟨Ζ,Ζ,by decide,by decide⟩
instance:NT Θ 116 4:=⟨λ_=>Ζ,Ζ⟩
instance:cM Θ 116 0 0:=cM.of 0 Ζ
instance:cM Θ 116 1 1:=cM.of 0 Ζ
instance:cM Θ 116 2 2:=cM.of 0 Ζ
instance:cM Θ 116 3 3:=cM.of 0 Ζ
instance:OW Θ 116 [(0,1),(1,1),(2,1),(3,1)]:=⟨Ζ⟩
instance:NC Θ 116 [ah none 0 0,ah none 0 0,ah none 0 0,ah none 0 0]:=⟨Ζ⟩
instance:L6 Θ 118:=⟨λ_=>Ζ,Ζ⟩
instance:M7 Θ 118 87 7 72 [J 0,J 0,J 0,J 0,J 0,J 0,ah none 0 0]:=⟨Ζ,Ζ,by decide,by decide⟩
instance:L6 Θ 126:=⟨λ_=>Ζ,Ζ⟩
instance:L6 Θ 127:=⟨λ_=>Ζ,Ζ⟩
instance:L6 Θ 128:=⟨λ_=>Ζ,Ζ⟩
instance:cM Θ 130 0 0:=cM.of 0 Ζ
instance:cM Θ 130 1 1:=cM.of 3 Ζ
instance:cM Θ 130 2 5:=cM.of 0 Ζ
instance:cM Θ 130 3 6:=cM.of 0 Ζ
instance:cM Θ 130 4 7:=cM.of 0 Ζ
instance:cM Θ 130 5 8:=cM.of 0 Ζ
instance:cM Θ 130 6 9:=cM.of 0 Ζ
instance:cM Θ 130 7 10:=cM.of 0 Ζ
instance:OW Θ 130 [(0,1),(1,4),(5,1),(6,1),(7,1),(8,1),(9,1),(10,1)]:=⟨Ζ⟩
instance:NC Θ 130 [J 0,ah none 0 0,ah none 0 0,ah none 0 0,ah none 0 0,.map none,.map none,ah none 0 0,ah none 0 0,.map none,.map none]:=⟨Ζ⟩
instance:NT Θ 134 5:=⟨λ_=>Ζ,Ζ⟩
instance:cM Θ 134 0 0:=cM.of 0 Ζ
instance:cM Θ 134 1 1:=cM.of 0 Ζ
instance:cM Θ 134 2 2:=cM.of 0 Ζ
instance:cM Θ 134 3 3:=cM.of 0 Ζ
instance:cM Θ 134 4 4:=cM.of 0 Ζ
instance:OW Θ 134 [(0,1),(1,1),(2,1),(3,1),(4,1)]:=⟨Ζ⟩
instance:NC Θ 134 [J 0,J 0,J 0,J 0,ah none 0 0]:=⟨Ζ⟩
instance:NT Θ 135 5:=⟨λ_=>Ζ,Ζ⟩
instance:cM Θ 135 0 0:=cM.of 0 Ζ
instance:cM Θ 135 1 1:=cM.of 0 Ζ
instance:cM Θ 135 2 2:=cM.of 0 Ζ
instance:cM Θ 135 3 3:=cM.of 0 Ζ
instance:cM Θ 135 4 4:=cM.of 0 Ζ
instance:OW Θ 135 [(0,1),(1,1),(2,1),(3,1),(4,1)]:=⟨Ζ⟩
instance:NC Θ 135 [J 0,J 0,J 0,J 0,ah none 0 0]:=⟨Ζ⟩
instance:NT Θ 137 2:=⟨λ_=>Ζ,Ζ⟩
instance:cM Θ 137 0 0:=cM.of 0 Ζ
instance:cM Θ 137 1 1:=cM.of 0 Ζ
instance:OW Θ 137 [(0,1),(1,1)]:=⟨Ζ⟩
instance:NC Θ 137 [J 0,J 0]:=⟨Ζ⟩
instance:UE Θ 141:=⟨⟨150,Ζ⟩⟩
instance:L6 Θ 143:=⟨λ_=>Ζ,Ζ⟩
instance:L6 Θ 144:=⟨λ_=>Ζ,Ζ⟩
instance:L6 Θ 145:=⟨λ_=>Ζ,Ζ⟩
instance:cM Θ 147 0 0:=cM.of 0 Ζ
instance:cM Θ 147 1 1:=cM.of 0 Ζ
instance:cM Θ 147 2 2:=cM.of 0 Ζ
instance:cM Θ 147 3 3:=cM.of 0 Ζ
instance:cM Θ 147 4 4:=cM.of 0 Ζ
instance:cM Θ 147 5 5:=cM.of 0 Ζ
instance:cM Θ 147 6 6:=cM.of 0 Ζ
instance:cM Θ 147 7 7:=cM.of 0 Ζ
instance:OW Θ 147 [(0,1),(1,1),(2,1),(3,1),(4,1),(5,1),(6,1),(7,1)]:=⟨Ζ⟩
instance:NC Θ 147 [.pointer none,J 0,J 0,J 0,J 0,.map none,.map none,.map none]:=⟨Ζ⟩
instance:L6 Θ 148:=⟨λ_=>Ζ,Ζ⟩
instance:cM Θ 150 0 0:=cM.of 0 Ζ
instance:cM Θ 150 1 1:=cM.of 0 Ζ
instance:cM Θ 150 2 2:=cM.of 0 Ζ
instance:cM Θ 150 3 3:=cM.of 0 Ζ
instance:cM Θ 150 4 4:=cM.of 0 Ζ
instance:cM Θ 150 5 5:=cM.of 0 Ζ
instance:cM Θ 150 6 6:=cM.of 0 Ζ
instance:OW Θ 150 [(0,1),(1,1),(2,1),(3,1),(4,1),(5,1),(6,1)]:=⟨Ζ⟩
instance:NC Θ 150 [ah none 0 0,ah none 0 0,J 0,.map none,.map none,.bool false,.bool false]:=⟨Ζ⟩
instance:L6 Θ 153:=⟨λ_=>Ζ,Ζ⟩
instance:M7 Θ 153 197 8 96 [J 0,J 0,J 0,J 0,ah none 0 0,J 0,J 0,ah none 0 0]:=⟨Ζ,Ζ,by decide,by decide⟩
instance:cM Θ 155 0 0:=cM.of 0 Ζ
instance:cM Θ 155 1 1:=cM.of 0 Ζ
instance:cM Θ 155 2 2:=cM.of 0 Ζ
instance:OW Θ 155 [(0,1),(1,1),(2,1)]:=⟨Ζ⟩
instance:NC Θ 155 [J 0,J 0,ah none 0 0]:=⟨Ζ⟩
instance:NT Θ 157 2:=⟨λ_=>Ζ,Ζ⟩
instance:cM Θ 157 0 0:=cM.of 0 Ζ
instance:OW Θ 157 [(0,1),(1,1)]:=⟨Ζ⟩
instance:NC Θ 157 [J 0,J 0]:=⟨Ζ⟩
instance:L6 Θ 159:=⟨λ_=>Ζ,Ζ⟩
instance:cM Θ 178 0 0:=cM.of 0 Ζ
instance:cM Θ 178 1 1:=cM.of 6 Ζ
instance:cM Θ 178 2 8:=cM.of 0 Ζ
instance:cM Θ 178 3 9:=cM.of 0 Ζ
instance:cM Θ 178 4 10:=cM.of 0 Ζ
instance:cM Θ 178 5 11:=cM.of 0 Ζ
instance:cM Θ 178 6 12:=cM.of 0 Ζ
instance:cM Θ 178 7 13:=cM.of 0 Ζ
instance:OW Θ 178 [(0,1),(1,7),(8,1),(9,1),(10,1),(11,1),(12,1),(13,1)]:=⟨Ζ⟩
instance:NC Θ 178 [.pointer none,J 0,J 0,J 0,J 0,J 0,J 0,ah none 0 0,.map none,.map none,.map none,.map none,ah none 0 0,ah none 0 0]:=⟨Ζ⟩
instance:NT Θ 197 8:=⟨λ_=>Ζ,Ζ⟩
instance:cM Θ 197 0 0:=cM.of 4 Ζ
instance:cM Θ 197 1 5:=cM.of 0 Ζ
instance:cM Θ 197 2 6:=cM.of 0 Ζ
instance:cM Θ 197 3 7:=cM.of 0 Ζ
instance:OW Θ 197 [(0,5),(5,1),(6,1),(7,1)]:=⟨Ζ⟩
instance:NC Θ 197 [J 0,J 0,J 0,J 0,ah none 0 0,J 0,J 0,ah none 0 0]:=⟨Ζ⟩
instance:L6 Θ 202:=⟨λ_=>Ζ,Ζ⟩
instance:M7 Θ 202 293 1 8 [.int .u64 0]:=⟨Ζ,Ζ,by decide,by decide⟩
instance:NC Θ 202 [ah none 0 0]:=⟨Ζ⟩
instance:NT Θ 214 7:=⟨λ_=>Ζ,Ζ⟩
instance:cM Θ 214 0 0:=cM.of 0 Ζ
instance:cM Θ 214 1 1:=cM.of 0 Ζ
instance:cM Θ 214 2 2:=cM.of 0 Ζ
instance:cM Θ 214 3 3:=cM.of 0 Ζ
instance:cM Θ 214 4 4:=cM.of 0 Ζ
instance:cM Θ 214 5 5:=cM.of 0 Ζ
instance:cM Θ 214 6 6:=cM.of 0 Ζ
instance:OW Θ 214 [(0,1),(1,1),(2,1),(3,1),(4,1),(5,1),(6,1)]:=⟨Ζ⟩
instance:NC Θ 214 [.string ⟨#[]⟩,.bool false,.bool false,.bool false,J 0,J 0,J 0]:=⟨Ζ⟩
instance:NT Θ 222 6:=⟨λ_=>Ζ,Ζ⟩
instance:cM Θ 222 0 0:=cM.of 0 Ζ
instance:cM Θ 222 1 1:=cM.of 0 Ζ
instance:cM Θ 222 2 2:=cM.of 0 Ζ
instance:cM Θ 222 3 3:=cM.of 0 Ζ
instance:cM Θ 222 4 4:=cM.of 0 Ζ
instance:cM Θ 222 5 5:=cM.of 0 Ζ
instance:OW Θ 222 [(0,1),(1,1),(2,1),(3,1),(4,1),(5,1)]:=⟨Ζ⟩
instance:NC Θ 222 [J 0,J 0,J 0,.bool false,ah none 0 0,ah none 0 0]:=⟨Ζ⟩
instance:L6 Θ 248:=⟨λ_=>Ζ,Ζ⟩
instance:NC Θ 248 [.nilFunc]:=⟨Ζ⟩
instance:L6 Θ 293:=⟨λ_=>Ζ,Ζ⟩
instance:QX Θ 293 .u64:=⟨Ζ⟩
instance:L6 Θ 297:=⟨λ_=>Ζ,Ζ⟩
instance:NT Θ 299 4:=⟨λ_=>Ζ,Ζ⟩
instance:cM Θ 299 0 0:=cM.of 0 Ζ
instance:cM Θ 299 1 1:=cM.of 0 Ζ
instance:cM Θ 299 2 2:=cM.of 0 Ζ
instance:cM Θ 299 3 3:=cM.of 0 Ζ
instance:OW Θ 299 [(0,1),(1,1),(2,1),(3,1)]:=⟨Ζ⟩
instance:NC Θ 299 [.nilFunc,.nilFunc,.bool false,.nilFunc]:=⟨Ζ⟩
instance:L6 Θ 330:=⟨λ_=>Ζ,Ζ⟩
instance:NC Θ 330 [.nilFunc]:=⟨Ζ⟩
instance:cM Θ 363 0 0:=cM.of 0 Ζ
instance:cM Θ 363 1 1:=cM.of 0 Ζ
instance:OW Θ 363 [(0,1),(1,1)]:=⟨Ζ⟩
instance:NC Θ 363 [ah none 0 0,J 0]:=⟨Ζ⟩
instance:cM Θ 368 0 0:=cM.of 0 Ζ
instance:OW Θ 368 [(0,1)]:=⟨Ζ⟩
instance:NC Θ 368 [ah none 0 0]:=⟨Ζ⟩
instance:L6 Θ 370:=⟨λ_=>Ζ,Ζ⟩
instance:M7 Θ 370 374 4 40 [J 0,.string ⟨#[]⟩,J 0,J 0]:=⟨Ζ,Ζ,by decide,by decide⟩
instance:NC Θ 370 [ah none 0 0]:=⟨Ζ⟩
instance:NT Θ 374 4:=⟨λ_=>Ζ,Ζ⟩
instance:cM Θ 374 0 0:=cM.of 0 Ζ
instance:cM Θ 374 1 1:=cM.of 0 Ζ
instance:OW Θ 374 [(0,1),(1,1),(2,1),(3,1)]:=⟨Ζ⟩
instance:NC Θ 374 [J 0,.string ⟨#[]⟩,J 0,J 0]:=⟨Ζ⟩
instance en4:En Θ 4 Tryz.f4 323:=⟨λ_ _=>Ζ,Tryz.func4,rfl⟩
instance aag:En Θ 10 Tryz.f10 13:=⟨λ_ _=>Ζ,Tryz.func10,rfl⟩
instance aah:En Θ 11 Tryz.f11 94:=⟨λ_ _=>Ζ,Tryz.func11,rfl⟩
instance aai:En Θ 12 Tryz.f12 81:=⟨λ_ _=>Ζ,Tryz.func12,rfl⟩
instance aaj:En Θ 13 Tryz.f13 195:=⟨λ_ _=>Ζ,Tryz.func13,rfl⟩
instance aak:En Θ 17 Tryz.f17 8:=⟨λ_ _=>Ζ,Tryz.func17,rfl⟩
instance aal:En Θ 20 Tryz.f20 149:=⟨λ_ _=>Ζ,Tryz.func20,rfl⟩
instance Xs:En Θ 21 Tryz.f21 35:=⟨λ_ _=>Ζ,Tryz.func21,rfl⟩
instance aam:En Θ 22 Tryz.f22 103:=⟨λ_ _=>Ζ,Tryz.func22,rfl⟩
instance aan:En Θ 23 Tryz.f23 62:=⟨λ_ _=>Ζ,Tryz.func23,rfl⟩
instance aao:En Θ 24 Tryz.f24 7:=⟨λ_ _=>Ζ,Tryz.func24,rfl⟩
instance aap:En Θ 25 Tryz.f25 65:=⟨λ_ _=>Ζ,Tryz.func25,rfl⟩
instance aaq:En Θ 26 Tryz.f26 74:=⟨λ_ _=>Ζ,Tryz.func26,rfl⟩
instance aar:En Θ 30 Tryz.f30 100:=⟨λ_ _=>Ζ,Tryz.func30,rfl⟩
instance aas:En Θ 31 Tryz.f31 22:=⟨λ_ _=>Ζ,Tryz.func31,rfl⟩
instance aat:En Θ 38 Tryz.f38 43:=⟨λ_ _=>Ζ,Tryz.func38,rfl⟩
instance aau:En Θ 41 Tryz.f41 113:=⟨λ_ _=>Ζ,Tryz.func41,rfl⟩
instance aav:En Θ 46 Tryz.f46 27:=⟨λ_ _=>Ζ,Tryz.func46,rfl⟩
instance aaw:En Θ 47 Tryz.f47 7:=⟨λ_ _=>Ζ,Tryz.func47,rfl⟩
instance aax:En Θ 48 Tryz.f48 32:=⟨λ_ _=>Ζ,Tryz.func48,rfl⟩
instance aay:En Θ 49 Tryz.f49 35:=⟨λ_ _=>Ζ,Tryz.func49,rfl⟩
instance aaz:En Θ 50 Tryz.f50 89:=⟨λ_ _=>Ζ,Tryz.func50,rfl⟩
instance aaA:En Θ 51 Tryz.f51 41:=⟨λ_ _=>Ζ,Tryz.func51,rfl⟩
instance aaB:En Θ 52 Tryz.f52 29:=⟨λ_ _=>Ζ,Tryz.func52,rfl⟩
instance aaC:En Θ 53 Tryz.f53 12:=⟨λ_ _=>Ζ,Tryz.func53,rfl⟩
instance aaD:En Θ 54 Tryz.f54 18:=⟨λ_ _=>Ζ,Tryz.func54,rfl⟩
instance aaE:En Θ 55 Tryz.f55 18:=⟨λ_ _=>Ζ,Tryz.func55,rfl⟩
instance aaF:En Θ 56 Tryz.f56 80:=⟨λ_ _=>Ζ,Tryz.func56,rfl⟩
instance aaG:En Θ 58 Tryz.f58 16:=⟨λ_ _=>Ζ,Tryz.func58,rfl⟩
def Y6:Enters Θ 59:=λ_ _=>Ζ
instance Y7:En Θ 60 Tryz.f60 17:=⟨λ_ _=>Ζ,Tryz.func60,rfl⟩
instance aaH:En Θ 61 Tryz.f61 18:=⟨λ_ _=>Ζ,Tryz.func61,rfl⟩
instance aaI:En Θ 62 Tryz.f62 20:=⟨λ_ _=>Ζ,Tryz.func62,rfl⟩
instance aaJ:En Θ 63 Tryz.f63 42:=⟨λ_ _=>Ζ,Tryz.func63,rfl⟩
instance aaK:En Θ 64 Tryz.f64 34:=⟨λ_ _=>Ζ,Tryz.func64,rfl⟩
instance aaL:En Θ 65 Tryz.f65 8:=⟨λ_ _=>Ζ,Tryz.func65,rfl⟩
instance aaM:En Θ 66 Tryz.f66 62:=⟨λ_ _=>Ζ,Tryz.func66,rfl⟩
instance aaN:En Θ 67 Tryz.f67 21:=⟨λ_ _=>Ζ,Tryz.func67,rfl⟩
instance aaO:En Θ 68 Tryz.f68 39:=⟨λ_ _=>Ζ,Tryz.func68,rfl⟩
instance aaP:En Θ 69 Tryz.f69 33:=⟨λ_ _=>Ζ,Tryz.func69,rfl⟩
instance aaQ:En Θ 76 Tryz.f76 62:=⟨λ_ _=>Ζ,Tryz.func76,rfl⟩
instance aaR:En Θ 77 Tryz.f77 16:=⟨λ_ _=>Ζ,Tryz.func77,rfl⟩
instance aaS:En Θ 78 Tryz.f78 16:=⟨λ_ _=>Ζ,Tryz.func78,rfl⟩
instance aaT:En Θ 85 Tryz.f85 15:=⟨λ_ _=>Ζ,Tryz.func85,rfl⟩
instance aaU:En Θ 86 Tryz.f86 23:=⟨λ_ _=>Ζ,Tryz.func86,rfl⟩
instance aaV:En Θ 87 Tryz.f87 37:=⟨λ_ _=>Ζ,Tryz.func87,rfl⟩
instance aaW:En Θ 96 Tryz.f96 51:=⟨λ_ _=>Ζ,Tryz.func96,rfl⟩
instance aaX:En Θ 97 Tryz.f97 104:=⟨λ_ _=>Ζ,Tryz.func97,rfl⟩
instance aaY:En Θ 98 Tryz.f98 31:=⟨λ_ _=>Ζ,Tryz.func98,rfl⟩
instance aaZ:En Θ 102 Tryz.f102 8:=⟨λ_ _=>Ζ,Tryz.func102,rfl⟩
instance aa0:En Θ 105 Tryz.f105 59:=⟨λ_ _=>Ζ,Tryz.func105,rfl⟩
instance aa1:En Θ 107 Tryz.f107 23:=⟨λ_ _=>Ζ,Tryz.func107,rfl⟩
instance aa2:En Θ 108 Tryz.f108 16:=⟨λ_ _=>Ζ,Tryz.func108,rfl⟩
instance aa3:En Θ 109 Tryz.f109 67:=⟨λ_ _=>Ζ,Tryz.func109,rfl⟩
instance aa4:En Θ 110 Tryz.f110 29:=⟨λ_ _=>Ζ,Tryz.func110,rfl⟩
instance aa5:En Θ 111 Tryz.f111 8:=⟨λ_ _=>Ζ,Tryz.func111,rfl⟩
instance aa6:En Θ 112 Tryz.f112 9:=⟨λ_ _=>Ζ,Tryz.func112,rfl⟩
instance aa7:En Θ 113 Tryz.f113 8:=⟨λ_ _=>Ζ,Tryz.func113,rfl⟩
instance aa8:En Θ 114 Tryz.f114 34:=⟨λ_ _=>Ζ,Tryz.func114,rfl⟩
instance aa9:En Θ 115 Tryz.f115 8:=⟨λ_ _=>Ζ,Tryz.func115,rfl⟩
instance aba:En Θ 116 Tryz.f116 29:=⟨λ_ _=>Ζ,Tryz.func116,rfl⟩
def MW:Enters Θ 117:=λ_ _=>Ζ
instance Y8:En Θ 118 Tryz.f118 17:=⟨λ_ _=>Ζ,Tryz.func118,rfl⟩
instance abb:En Θ 119 Tryz.f119 6:=⟨λ_ _=>Ζ,Tryz.func119,rfl⟩
instance abc:En Θ 122 Tryz.f122 6:=⟨λ_ _=>Ζ,Tryz.func122,rfl⟩
instance abd:En Θ 123 Tryz.f123 19:=⟨λ_ _=>Ζ,Tryz.func123,rfl⟩
instance abe:En Θ 124 Tryz.f124 5:=⟨λ_ _=>Ζ,Tryz.func124,rfl⟩
instance abf:En Θ 125 Tryz.f125 4:=⟨λ_ _=>Ζ,Tryz.func125,rfl⟩
def MV:Enters Θ 126:=λ_ _=>Ζ
instance abg:En Θ 127 Tryz.f127 9:=⟨λ_ _=>Ζ,Tryz.func127,rfl⟩
instance abh:En Θ 128 Tryz.f128 6:=⟨λ_ _=>Ζ,Tryz.func128,rfl⟩
instance abi:En Θ 129 Tryz.f129 24:=⟨λ_ _=>Ζ,Tryz.func129,rfl⟩
instance abj:En Θ 132 Tryz.f132 70:=⟨λ_ _=>Ζ,Tryz.func132,rfl⟩
instance abk:En Θ 133 Tryz.f133 8:=⟨λ_ _=>Ζ,Tryz.func133,rfl⟩
instance abl:En Θ 134 Tryz.f134 186:=⟨λ_ _=>Ζ,Tryz.func134,rfl⟩
instance abm:En Θ 136 Tryz.f136 32:=⟨λ_ _=>Ζ,Tryz.func136,rfl⟩
instance abn:En Θ 137 Tryz.f137 114:=⟨λ_ _=>Ζ,Tryz.func137,rfl⟩
instance abo:En Θ 138 Tryz.f138 64:=⟨λ_ _=>Ζ,Tryz.func138,rfl⟩
instance abp:En Θ 139 Tryz.f139 81:=⟨λ_ _=>Ζ,Tryz.func139,rfl⟩
instance abq:En Θ 140 Tryz.f140 27:=⟨λ_ _=>Ζ,Tryz.func140,rfl⟩
instance abr:En Θ 141 Tryz.f141 98:=⟨λ_ _=>Ζ,Tryz.func141,rfl⟩
instance abt:En Θ 142 Tryz.f142 61:=⟨λ_ _=>Ζ,Tryz.func142,rfl⟩
instance abu:En Θ 143 Tryz.f143 93:=⟨λ_ _=>Ζ,Tryz.func143,rfl⟩
instance abv:En Θ 145 Tryz.f145 22:=⟨λ_ _=>Ζ,Tryz.func145,rfl⟩
instance abw:En Θ 146 Tryz.f146 55:=⟨λ_ _=>Ζ,Tryz.func146,rfl⟩
instance abx:En Θ 147 Tryz.f147 28:=⟨λ_ _=>Ζ,Tryz.func147,rfl⟩
instance aby:En Θ 148 Tryz.f148 15:=⟨λ_ _=>Ζ,Tryz.func148,rfl⟩
instance abz:En Θ 151 Tryz.f151 26:=⟨λ_ _=>Ζ,Tryz.func151,rfl⟩
instance abA:En Θ 154 Tryz.f154 40:=⟨λ_ _=>Ζ,Tryz.func154,rfl⟩
instance abB:En Θ 155 Tryz.f155 21:=⟨λ_ _=>Ζ,Tryz.func155,rfl⟩
instance abC:En Θ 156 Tryz.f156 21:=⟨λ_ _=>Ζ,Tryz.func156,rfl⟩
instance abD:En Θ 157 Tryz.f157 25:=⟨λ_ _=>Ζ,Tryz.func157,rfl⟩
instance abE:En Θ 158 Tryz.f158 24:=⟨λ_ _=>Ζ,Tryz.func158,rfl⟩
instance abF:En Θ 159 Tryz.f159 8:=⟨λ_ _=>Ζ,Tryz.func159,rfl⟩
instance abG:En Θ 160 Tryz.f160 29:=⟨λ_ _=>Ζ,Tryz.func160,rfl⟩
instance abH:En Θ 162 Tryz.f162 29:=⟨λ_ _=>Ζ,Tryz.func162,rfl⟩
instance abI:En Θ 164 Tryz.f164 29:=⟨λ_ _=>Ζ,Tryz.func164,rfl⟩
instance abJ:En Θ 166 Tryz.f166 8:=⟨λ_ _=>Ζ,Tryz.func166,rfl⟩
instance abK:En Θ 167 Tryz.f167 9:=⟨λ_ _=>Ζ,Tryz.func167,rfl⟩
instance abL:En Θ 168 Tryz.f168 8:=⟨λ_ _=>Ζ,Tryz.func168,rfl⟩
instance abM:En Θ 169 Tryz.f169 19:=⟨λ_ _=>Ζ,Tryz.func169,rfl⟩
instance Y9:En Θ 171 Tryz.f171 131:=⟨λ_ _=>Ζ,Tryz.func171,rfl⟩
instance abN:En Θ 172 Tryz.f172 39:=⟨λ_ _=>Ζ,Tryz.func172,rfl⟩
instance abO:En Θ 182 Tryz.f182 25:=⟨λ_ _=>Ζ,Tryz.func182,rfl⟩
instance abP:En Θ 183 Tryz.f183 13:=⟨λ_ _=>Ζ,Tryz.func183,rfl⟩
instance Zf:En Θ 184 Tryz.f184 14:=⟨λ_ _=>Ζ,Tryz.func184,rfl⟩
instance abQ:En Θ 186 Tryz.f186 19:=⟨λ_ _=>Ζ,Tryz.func186,rfl⟩
instance abR:En Θ 187 Tryz.f187 33:=⟨λ_ _=>Ζ,Tryz.func187,rfl⟩
instance abS:En Θ 188 Tryz.f188 9:=⟨λ_ _=>Ζ,Tryz.func188,rfl⟩
instance abT:En Θ 189 Tryz.f189 22:=⟨λ_ _=>Ζ,Tryz.func189,rfl⟩
instance abU:En Θ 190 Tryz.f190 93:=⟨λ_ _=>Ζ,Tryz.func190,rfl⟩
instance abV:En Θ 191 Tryz.f191 29:=⟨λ_ _=>Ζ,Tryz.func191,rfl⟩
instance abW:En Θ 192 Tryz.f192 8:=⟨λ_ _=>Ζ,Tryz.func192,rfl⟩
instance abX:En Θ 193 Tryz.f193 35:=⟨λ_ _=>Ζ,Tryz.func193,rfl⟩
instance abY:En Θ 194 Tryz.f194 33:=⟨λ_ _=>Ζ,Tryz.func194,rfl⟩
instance abZ:En Θ 195 Tryz.f195 17:=⟨λ_ _=>Ζ,Tryz.func195,rfl⟩
instance ab0:En Θ 196 Tryz.f196 5:=⟨λ_ _=>Ζ,Tryz.func196,rfl⟩
instance ab1:En Θ 197 Tryz.f197 7:=⟨λ_ _=>Ζ,Tryz.func197,rfl⟩
instance ab2:En Θ 198 Tryz.f198 6:=⟨λ_ _=>Ζ,Tryz.func198,rfl⟩
instance ab3:En Θ 199 Tryz.f199 13:=⟨λ_ _=>Ζ,Tryz.func199,rfl⟩
instance ab4:En Θ 200 Tryz.f200 7:=⟨λ_ _=>Ζ,Tryz.func200,rfl⟩
instance ab5:En Θ 201 Tryz.f201 18:=⟨λ_ _=>Ζ,Tryz.func201,rfl⟩
instance ab6:En Θ 202 Tryz.f202 8:=⟨λ_ _=>Ζ,Tryz.func202,rfl⟩
instance ab7:En Θ 203 Tryz.f203 19:=⟨λ_ _=>Ζ,Tryz.func203,rfl⟩
instance ab8:En Θ 204 Tryz.f204 73:=⟨λ_ _=>Ζ,Tryz.func204,rfl⟩
instance ab9:En Θ 205 Tryz.f205 18:=⟨λ_ _=>Ζ,Tryz.func205,rfl⟩
instance acd:En Θ 207 Tryz.f207 18:=⟨λ_ _=>Ζ,Tryz.func207,rfl⟩
instance ace:En Θ 209 Tryz.f209 18:=⟨λ_ _=>Ζ,Tryz.func209,rfl⟩
instance acf:En Θ 211 Tryz.f211 18:=⟨λ_ _=>Ζ,Tryz.func211,rfl⟩
instance acg:En Θ 212 Tryz.f212 6:=⟨λ_ _=>Ζ,Tryz.func212,rfl⟩
instance ach:En Θ 213 Tryz.f213 34:=⟨λ_ _=>Ζ,Tryz.func213,rfl⟩
instance aci:En Θ 217 Tryz.f217 27:=⟨λ_ _=>Ζ,Tryz.func217,rfl⟩
instance acj:En Θ 218 Tryz.f218 5:=⟨λ_ _=>Ζ,Tryz.func218,rfl⟩
instance ack:En Θ 219 Tryz.f219 27:=⟨λ_ _=>Ζ,Tryz.func219,rfl⟩
instance acm:En Θ 221 Tryz.f221 27:=⟨λ_ _=>Ζ,Tryz.func221,rfl⟩
instance acn:En Θ 223 Tryz.f223 27:=⟨λ_ _=>Ζ,Tryz.func223,rfl⟩
instance aco:En Θ 226 Tryz.f226 36:=⟨λ_ _=>Ζ,Tryz.func226,rfl⟩
instance acp:En Θ 237 Tryz.f237 26:=⟨λ_ _=>Ζ,Tryz.func237,rfl⟩
instance acq:En Θ 269 Tryz.f269 5:=⟨λ_ _=>Ζ,Tryz.func269,rfl⟩
instance acr:En Θ 270 Tryz.f270 5:=⟨λ_ _=>Ζ,Tryz.func270,rfl⟩
instance acs:En Θ 271 Tryz.f271 13:=⟨λ_ _=>Ζ,Tryz.func271,rfl⟩
instance acu:En Θ 275 Tryz.f275 73:=⟨λ_ _=>Ζ,Tryz.func275,rfl⟩
instance acv:En Θ 276 Tryz.f276 71:=⟨λ_ _=>Ζ,Tryz.func276,rfl⟩
instance acw:En Θ 278 Tryz.f278 39:=⟨λ_ _=>Ζ,Tryz.func278,rfl⟩
instance acy:En Θ 279 Tryz.f279 8:=⟨λ_ _=>Ζ,Tryz.func279,rfl⟩
instance acz:En Θ 280 Tryz.f280 11:=⟨λ_ _=>Ζ,Tryz.func280,rfl⟩
instance acA:En Θ 281 Tryz.f281 43:=⟨λ_ _=>Ζ,Tryz.func281,rfl⟩
instance acB:En Θ 282 Tryz.f282 33:=⟨λ_ _=>Ζ,Tryz.func282,rfl⟩
instance acC:En Θ 283 Tryz.f283 44:=⟨λ_ _=>Ζ,Tryz.func283,rfl⟩
instance acD:En Θ 284 Tryz.f284 8:=⟨λ_ _=>Ζ,Tryz.func284,rfl⟩
instance acE:En Θ 285 Tryz.f285 23:=⟨λ_ _=>Ζ,Tryz.func285,rfl⟩
instance acF:En Θ 286 Tryz.f286 21:=⟨λ_ _=>Ζ,Tryz.func286,rfl⟩
instance acG:En Θ 287 Tryz.f287 8:=⟨λ_ _=>Ζ,Tryz.func287,rfl⟩
instance acH:En Θ 288 Tryz.f288 25:=⟨λ_ _=>Ζ,Tryz.func288,rfl⟩
instance acI:En Θ 300 Tryz.f300 74:=⟨λ_ _=>Ζ,Tryz.func300,rfl⟩
instance acJ:En Θ 302 Tryz.f302 20:=⟨λ_ _=>Ζ,Tryz.func302,rfl⟩
instance acK:En Θ 303 Tryz.f303 22:=⟨λ_ _=>Ζ,Tryz.func303,rfl⟩
instance acL:En Θ 304 Tryz.f304 9:=⟨λ_ _=>Ζ,Tryz.func304,rfl⟩
instance acM:En Θ 305 Tryz.f305 19:=⟨λ_ _=>Ζ,Tryz.func305,rfl⟩
instance acN:En Θ 306 Tryz.f306 31:=⟨λ_ _=>Ζ,Tryz.func306,rfl⟩
instance acO:En Θ 307 Tryz.f307 10:=⟨λ_ _=>Ζ,Tryz.func307,rfl⟩
instance acP:En Θ 308 Tryz.f308 4:=⟨λ_ _=>Ζ,Tryz.func308,rfl⟩
instance acQ:En Θ 311 Tryz.f311 6:=⟨λ_ _=>Ζ,Tryz.func311,rfl⟩
instance acR:En Θ 312 Tryz.f312 100:=⟨λ_ _=>Ζ,Tryz.func312,rfl⟩
instance acS:En Θ 313 Tryz.f313 8:=⟨λ_ _=>Ζ,Tryz.func313,rfl⟩
instance acT:En Θ 314 Tryz.f314 22:=⟨λ_ _=>Ζ,Tryz.func314,rfl⟩
instance Zg:En Θ 315 Tryz.f315 34:=⟨λ_ _=>Ζ,Tryz.func315,rfl⟩
instance acU:En Θ 316 Tryz.f316 32:=⟨λ_ _=>Ζ,Tryz.func316,rfl⟩
instance acV:En Θ 317 Tryz.f317 99:=⟨λ_ _=>Ζ,Tryz.func317,rfl⟩
instance acW:En Θ 318 Tryz.f318 17:=⟨λ_ _=>Ζ,Tryz.func318,rfl⟩
instance acX:En Θ 319 Tryz.f319 9:=⟨λ_ _=>Ζ,Tryz.func319,rfl⟩
instance acY:En Θ 320 Tryz.f320 52:=⟨λ_ _=>Ζ,Tryz.func320,rfl⟩
def MU:Enters Θ 321:=λ_ _=>Ζ
instance Zh:En Θ 322 Tryz.f322 20:=⟨λ_ _=>Ζ,Tryz.func322,rfl⟩
instance acZ:En Θ 323 Tryz.f323 20:=⟨λ_ _=>Ζ,Tryz.func323,rfl⟩
instance ac0:En Θ 324 Tryz.f324 6:=⟨λ_ _=>Ζ,Tryz.func324,rfl⟩
instance ac1:En Θ 325 Tryz.f325 20:=⟨λ_ _=>Ζ,Tryz.func325,rfl⟩
instance ac2:En Θ 327 Tryz.f327 9:=⟨λ_ _=>Ζ,Tryz.func327,rfl⟩
instance ac3:En Θ 328 Tryz.f328 51:=⟨λ_ _=>Ζ,Tryz.func328,rfl⟩
instance ac4:En Θ 329 Tryz.f329 135:=⟨λ_ _=>Ζ,Tryz.func329,rfl⟩
instance ac5:En Θ 331 Tryz.f331 6:=⟨λ_ _=>Ζ,Tryz.func331,rfl⟩
instance Zi:En Θ 332 Tryz.f332 43:=⟨λ_ _=>Ζ,Tryz.func332,rfl⟩
instance ac6:En Θ 334 Tryz.f334 6:=⟨λ_ _=>Ζ,Tryz.func334,rfl⟩
def mixed:Tryz.prog.follows .mixedOrders=true:=Ζ
