/- Lemmas. -/
import Derived.Test.YtlgpgjdggilkgaaGreatDoorEdaf
import Derived.Laws.Strings2
import Derived.Test.YtlgpgjdggilkgaaGreatDoorProg
import Derived.KernelRfl
set_option linter.all false
namespace Go.V
section
def iu(P:Program)(N:Nat)(rs:List ResultVar)(post:Value->Ι->Prop):F8:=Ends P N rs post
section inp
variable {P:Program}{N ο:Nat}{env:Env}{L:Ι}{Ρ:F8}{post:Value->Ι->Prop}{ops:Array Oper}{cR:List Oper}{Ξ:Nat}{ty:TypeId}{pos:String}{af:Array Edge}
def KX.j5{e:Exit}{rs:List ResultVar}(h:iu P N rs post e env L):iu P N rs post e env L:=h
def KX.W9{e:Exit}(he:e=.ret\/e=.normal)(h:post (.tuple #[]) L):iu P N [] post e env L:=⟨he,λ_ _ _ s=>⟨[],L,C9.nil,s,h⟩⟩
def KX.YQ{e:Exit}{t:Nat}{v:Value}(he:e=.ret\/e=.normal)(I:env.lookup t=some v)(h:post v L):iu P N [.tmp t] post e env L:=⟨he,λ_ _ _ s=>⟨[v],L,C9.tmp I C9.nil,s,h⟩⟩
def KX.YR{e:Exit}{t u:Nat}{v w:Value}(he:e=.ret\/e=.normal)(I:env.lookup t=some v)(Q:env.lookup u=some w)(h:post (.tuple #[v,w]) L):iu P N [.tmp t,.tmp u] post e env L:=⟨he,λ_ _ _ s=>⟨[v,w],L,C9.tmp I (C9.tmp Q C9.nil),s,h⟩⟩
def KX.YS{e:Exit}{t u x:Nat}{v w y:Value}(he:e=.ret\/e=.normal)(I:env.lookup t=some v)(Q:env.lookup u=some w)(h3:env.lookup x=some y)(h:post (.tuple #[v,w,y]) L):iu P N [.tmp t,.tmp u,.tmp x] post e env L:=⟨he,λ_ _ _ s=>⟨[v,w,y],L,C9.tmp I (C9.tmp Q (C9.tmp h3 C9.nil)),s,h⟩⟩
def KX.YT{e:Exit}{x b an n:Nat}{t:TypeId}{cs:χ}{G1:Ι}[ht:Nw P t n][hp:Pq L b an cs G1](he:e=.ret\/e=.normal)(I:env.lookup x=some (ay b))(hn:cs.length=n)(h:post (.agg cs.toArray) L):iu P N [.cell x t] post e env L :=
 ⟨he,λ_ _ _ s=>⟨[.agg cs.toArray],L,C9.cell I hn C9.nil,s,h⟩⟩
def KX.g9{e:Exit}{x b an n u:Nat}{t:TypeId}{cs:χ}{w:Value}{G1:Ι}[ht:Nw P t n][hp:Pq L b an cs G1](he:e=.ret\/e=.normal)(I:env.lookup x=some (ay b))(hn:cs.length=n)(Q:env.lookup u=some w)(h:post (.tuple #[.agg cs.toArray,w]) L):iu P N [.cell x t,.tmp u] post e env L :=
 ⟨he,λ_ _ _ s=>⟨[.agg cs.toArray,w],L,C9.cell I hn (C9.tmp Q C9.nil),s,h⟩⟩
variable {f:FuncId}{fn:Func}{c:Code}{rs:List ResultVar}{G:Array Operand}{ats:Array TypeId}{vs:χ}
def Y.j6(he:Enters P f)(hf:P.funcs[f]? = some fn)(hb:fn.body=some c)(hr:fn.results=rs.toArray)(hN:fn.ntmps=ο)(hv:fG env G.toList=some vs)(A : vs.length<=ο)(hd:Ξ<N)
  (h:Β P ο c (OP vs 0) L (iu P ο rs (λv Ε=>Y P N ops cR ((Ξ,v)::env) Ε Ρ))):Y P N ops (⟨some Ξ,.call { callee:=.value (.func f),args:=G,argTypes:=ats },ty,pos,af,none⟩::cR) env L Ρ :=
 Y.ef (Ef.d8 (Υ.body (args:=vs) ο he hf hb hr hN A h) hv) hd λ_ _ h=>h
def δ.d8{done:List Nat}{y5:List K3}{A:List PE}{i:Nat}(he:Enters P f)(hf:P.funcs[f]? = some fn)(hb:fn.body=some c)(hr:fn.results=rs.toArray)(hN:fn.ntmps=ο)(hv:fG env G.toList=some vs)(J : vs.length<=ο)(hd:Ξ<N)
  (h:Β P ο c (OP vs 0) L (iu P ο rs (λv Ε=>vi P N ops done i y5 A [] ((Ξ,v)::env) Ε Ρ))):δ P N ops done (.ef i) y5 (some Ξ) (.call { callee:=.value (.func f),args:=G,argTypes:=ats }) ty A env L Ρ :=
 δ.ef (Ef.d8 (Υ.body (args:=vs) ο he hf hb hr hN J h) hv) hd λ_ _ h=>h
theorem Ef.c7{x:Operand}{first cap:χ}{post:Value->Ι->Prop}(c:Υ P f (first++vs++cap).toArray L post)(M:bG env x=some (.func (.func f) first.toArray cap.toArray))(hv:fG env G.toList=some vs) :
  Ef P L env (.call { callee:=.value x,args:=G,argTypes:=ats }) ty post:=by
 have h:=Ef.l8 (R':=[]) (ats:=ats) (ty:=ty) c M hv (by rw[aJ];exact E.refl _);intro θ R a w o next F9 ha s I Q hn
 exact h θ R a w o next F9 ha s I Q (λv Ε dH ⟨L₁,hp,he⟩ s'=>hn v L₁ dH hp (by rw[he,aJ] at s';exact s'))
def Y.j5{x:Operand}{first cap:χ}(M:bG env x=some (.func (.func f) first.toArray cap.toArray))(he:Enters P f)(hf:P.funcs[f]? = some fn)(hb:fn.body=some c)(hr:fn.results=rs.toArray)(hN:fn.ntmps=ο)(hv:fG env G.toList=some vs)(A : (first++vs++cap).length<=ο)(hd:Ξ<N)
  (h:Β P ο c (OP (first++vs++cap) 0) L (iu P ο rs (λv Ε=>Y P N ops cR ((Ξ,v)::env) Ε Ρ))):Y P N ops (⟨some Ξ,.call { callee:=.value x,args:=G,argTypes:=ats },ty,pos,af,none⟩::cR) env L Ρ :=
 Y.ef (Ef.c7 (Υ.body (args:=first++vs++cap) ο he hf hb hr hN A h) M hv) hd λ_ _ h=>h
def δ.d7{done:List Nat}{y5:List K3}{A:List PE}{i:Nat}{x:Operand}{first cap:χ}(M:bG env x=some (.func (.func f) first.toArray cap.toArray))(he:Enters P f)(hf:P.funcs[f]? = some fn)(hb:fn.body=some c)(hr:fn.results=rs.toArray)(hN:fn.ntmps=ο)(hv:fG env G.toList=some vs)(J : (first++vs++cap).length<=ο)(hd:Ξ<N)
  (h:Β P ο c (OP (first++vs++cap) 0) L (iu P ο rs (λv Ε=>vi P N ops done i y5 A [] ((Ξ,v)::env) Ε Ρ))):δ P N ops done (.ef i) y5 (some Ξ) (.call { callee:=.value x,args:=G,argTypes:=ats }) ty A env L Ρ :=
 δ.ef (Ef.c7 (Υ.body (args:=first++vs++cap) ο he hf hb hr hN J h) M hv) hd λ_ _ h=>h
def Y.ci[e:En P f fn ο](h:Β P ο c (OP vs 0) L (iu P ο rs (λv Ε=>Y P N ops cR ((Ξ,v)::env) Ε Ρ)))(hb:fn.body=some c:=by exact rfl)(hr:fn.results=rs.toArray:=by exact rfl)(hv:fG env G.toList=some vs:=by exact rfl)(TK : vs.length<=ο:=by simp)(hd:Ξ<N:=by decide):Y P N ops (⟨some Ξ,.call { callee:=.value (.func f),args:=G,argTypes:=ats },ty,pos,af,none⟩::cR) env L Ρ:=Y.j6 e.en e.hf hb hr e.hN hv TK hd h
def δ.ci{done:List Nat}{y5:List K3}{A:List PE}{i:Nat}[e:En P f fn ο](h:Β P ο c (OP vs 0) L (iu P ο rs (λv Ε=>vi P N ops done i y5 A [] ((Ξ,v)::env) Ε Ρ)))(hb:fn.body=some c:=by exact rfl)(hr:fn.results=rs.toArray:=by exact rfl)(hv:fG env G.toList=some vs:=by exact rfl)(TK : vs.length<=ο:=by simp)(hd:Ξ<N:=by decide):δ P N ops done (.ef i) y5 (some Ξ) (.call { callee:=.value (.func f),args:=G,argTypes:=ats }) ty A env L Ρ:=δ.d8 e.en e.hf hb hr e.hN hv TK hd h
def Y.cf{x:Operand}{first cap:χ}(M:bG env x=some (.func (.func f) first.toArray cap.toArray))[e:En P f fn ο](h:Β P ο c (OP (first++vs++cap) 0) L (iu P ο rs (λv Ε=>Y P N ops cR ((Ξ,v)::env) Ε Ρ)))(hb:fn.body=some c:=by exact rfl)(hr:fn.results=rs.toArray:=by exact rfl)(hv:fG env G.toList=some vs:=by exact rfl)(TK : (first++vs++cap).length<=ο:=by simp)(hd:Ξ<N:=by decide):Y P N ops (⟨some Ξ,.call { callee:=.value x,args:=G,argTypes:=ats },ty,pos,af,none⟩::cR) env L Ρ:=Y.j5 M e.en e.hf hb hr e.hN hv TK hd h
def δ.cf{done:List Nat}{y5:List K3}{A:List PE}{i:Nat}{x:Operand}{first cap:χ}(M:bG env x=some (.func (.func f) first.toArray cap.toArray))[e:En P f fn ο](h:Β P ο c (OP (first++vs++cap) 0) L (iu P ο rs (λv Ε=>vi P N ops done i y5 A [] ((Ξ,v)::env) Ε Ρ)))(hb:fn.body=some c:=by exact rfl)(hr:fn.results=rs.toArray:=by exact rfl)(hv:fG env G.toList=some vs:=by exact rfl)(TK : (first++vs++cap).length<=ο:=by simp)(hd:Ξ<N:=by decide):δ P N ops done (.ef i) y5 (some Ξ) (.call { callee:=.value x,args:=G,argTypes:=ats }) ty A env L Ρ:=δ.d7 M e.en e.hf hb hr e.hN hv TK hd h
def KX.RY{φ ψ:Prop}(k:ψ)(h:Hid ψ->φ:=by intro k;(with_reducible apply KX.j5);first|refine KX.W9 (.inl rfl) (Hid.out k)|refine KX.W9 (.inr rfl) (Hid.out k)|refine KX.YQ (.inl rfl) rfl (Hid.out k)|refine KX.YR (.inl rfl) rfl rfl (Hid.out k)|refine KX.YS (.inl rfl) rfl rfl rfl (Hid.out k)|refine KX.YT (.inl rfl) rfl aY (Hid.out k)|refine KX.g9 (.inl rfl) rfl aY rfl (Hid.out k)):φ:=h ⟨k⟩
def Ef.f7{x:Operand}{first cap:χ}{post:Value->Ι->Prop}(M:bG env x=some (.func (.func f) first.toArray cap.toArray))(hv:fG env G.toList=some vs)(c:Υ P f (first++vs++cap).toArray L post) :
  Ef P L env (.call { callee:=.value x,args:=G,argTypes:=ats }) ty post:=Ef.c7 c M hv
end inp
end
section
class TL (P:Program) (an:Nat) (n ζ sz:outParam Nat):Prop where
 under:P.underlying an=some (.array n ζ)
 size:(P.info? ζ).map (·.size)=some sz
def TL.QL{P:Program}{an n ζ sz:Nat}(h:TL P an n ζ sz)(w:World):(sizeOf ζ).run P w=.ok sz w:=by
 have I:=h.size;cases hi:P.info? ζ with
 | none=>rw[hi] at I;cases I
 | some i=>rw[hi] at I;simp at I;simp[sizeOf,typeInfo,hi,I]
def Ll(a:Addr)(i j:Nat):(a.add i).add j=a.add (i+j):=by
 unfold Addr.add;by_cases hi:i=0
 .subst hi;simp
 .by_cases hj:j=0
  .subst hj;simp[hi]
  .have:i+j≠0:=D;simp[hi,hj,dc]
section
variable {P:Program}{N:Nat}{env:Env}{L:Ι}{ty:TypeId}{v:Value}
def Z.p7{t:TypeId}{x i:Operand}(h:Z P L env (.index t x i) ty v):Z P L env (.index t x i) ty v:=h
def Z.l9{t:TypeId}{x i:Operand}{b o n ζ sz:Nat}{j:Int}{k:IntKind}[ht:TL P t n ζ sz](M:bG env x=some (.pointer (some ⟨b,o,none⟩)))(hi:bG env i=some (.int k j))(h0:0<=j)(I:j<n) :
  Z P L env (.indexAddr t x i) ty (.pointer (some ⟨b,o+j.toNat*sz,none⟩)) :=
 Z.mk (λθ R _ w ea s _ _ _ _=>by
  simp[execOp,aI ea M,aI ea hi,Instr.indexAt,asIntOf,run_underlying ht.under,h0,I,ht.QL,iR,Instr.sureAddr])
def Z.m7{t:TypeId}{x i:Operand}{ad:OA}{s' m o n ζ sz:Nat}{j:Int}{k:IntKind}{α:Type}{Η:α->χ}{G:List α}[ht:TL P t n ζ sz][hr:F5 L ad α Η s' G](M:bG env x=some (.pointer (OQ ad s' m o)))(hi:bG env i=some (.int k j))(hm:m<G.length)(h0:0<=j)(I:j<n) :
  Z P L env (.indexAddr t x i) ty (.pointer (OQ ad s' m (o+j.toNat*sz))) :=
 Z.mk (λθ R _ w ea s _ _ _ _=>by
  obtain⟨_,Q⟩:=hr.rd θ R w s;rcases Q with Q|⟨a,rfl,_⟩
  .subst Q;simp at hm
  .simp[execOp,aI ea M,aI ea hi,Instr.indexAt,asIntOf,run_underlying ht.under,h0,I,ht.QL,OQ,Instr.sureAddr,Ll,dc])
def Ey{s:ByteArray}{i:Nat}(h:i<s.size):s[i]? = some (s.data[i]'(by simpa using h)):=by
 simp[h];rfl
def Z.o0{t:TypeId}{x i:Operand}{s:ByteArray}{j:Int}{k:IntKind}[ht:Ub P t](M:bG env x=some (.string s))(hi:bG env i=some (.int k j))(h0:0<=j)(I:j<s.size) :
  Z P L env (.index t x i) ty (.int .u8 ((gu s)[j.toNat]!)) :=
 Z.mk (λθ R _ w ea st _ _ _ _=>by
  have A:j.toNat<s.size:=D
  have hn:(gu s)[j.toNat]! = ((s.data[j.toNat]'(by simpa using A)).toNat:Int):=by
   rw[List.getElem!_eq_getElem?_getD,List.getElem?_eq_getElem (by rw[ut];exact A)];simp[gu]
  rw[hn];simp[execOp,aI ea M,aI ea hi,Instr.index,asIntOf,run_underlying ht.under,h0,Ey A])
def Gk(s:ByteArray):∀x∈gu s,0<=x/\x<=255:=by
 intro x M;simp only[gu,List.mem_map] at M;obtain⟨y,_,rfl⟩:=M;have:=y.toNat_lt
 omega
def Z.o9{t:TypeId}{x lo hi:Operand}{s:ByteArray}{k k' : IntKind}{i j:Int}[ht:Ub P t](M:bG env x=some (.string s))(T:bG env lo=some (.int k i))(hh:bG env hi=some (.int k' j))(h0:0<=i)(I:i<=j)(Q:j<=s.size) :
  Z P L env (.slice t x (some lo) (some hi) none) ty (.string (s.extract i.toNat j.toNat)) :=
 Z.mk (λθ R _ w ea st _ _ _ _=>by
  have h3:0<=j:=D;simp[execOp,aI ea M,aI ea T,aI ea hh,Instr.sliceAt,Instr.slice,Instr.sliceBounds,Instr.sliceBound,asIntOf,run_underlying ht.under,h0,Q,h3];intro h;exact iJ h D)
def BQ(s:ByteArray):s.extract 0 s.size=s:=by
 apply ByteArray.ext;simp
end
end
section
def Sq:Nat->χ->χ->(χ->Option (χ))->Option (χ)
 | 0,[],z,k=>k z
 | 0,c::cs,_::z,k=>Sq 0 cs z λΔ=>k (c::Δ)
 | o+1,cs,x::z,k=>Sq o cs z λΔ=>k (x::Δ)
 | _,_,[],_=>none
def rz:∀(o:Nat) (cs z:χ) (k:χ->Option (χ)) (Δ:χ),Sq o cs z k=some Δ->o+cs.length<=z.length/\k (z.take o++cs++z.drop (o+cs.length))=some Δ
 | 0,[],z,k,Δ,h=>by simpa [Sq] using h
 | 0,c::cs,[],k,Δ,h=>by simp[Sq] at h
 | 0,c::cs,_::z,k,Δ,h=>by
  simp only[Sq] at h;have:=rz 0 cs z _ Δ h
  simp at this ⊢;exact this
 | o+1,cs,[],k,Δ,h=>by simp[Sq] at h
 | o+1,cs,x::z,k,Δ,h=>by
  simp only[Sq] at h;have:=rz o cs z _ Δ h
  rw[show o+1+cs.length=o+cs.length+1 by omega];simp at this ⊢;exact⟨D,this.2⟩
def RZ:Nat->Nat->χ->(χ->Option (χ))->Option (χ)
 | 0,0,_,k=>k []
 | 0,n+1,x::z,k=>RZ 0 n z λΔ=>k (x::Δ)
 | o+1,n,_::z,k=>RZ o n z k
 | _,_,[],_=>none
def rr:∀(o n:Nat) (z:χ) (k:χ->Option (χ)) (Δ:χ),RZ o n z k=some Δ->o+n<=z.length/\k ((z.drop o).take n)=some Δ
 | 0,0,z,k,Δ,h=>by cases z<;>simpa [RZ] using h
 | 0,n+1,[],k,Δ,h=>by simp[RZ] at h
 | 0,n+1,x::z,k,Δ,h=>by
  simp only[RZ] at h;have:=rr 0 n z _ Δ h
  simp at this ⊢;exact this
 | o+1,n,[],k,Δ,h=>by cases n<;>simp[RZ] at h
 | o+1,n,x::z,k,Δ,h=>by
  have h' : RZ o n z k=some Δ:=by cases n<;>simpa only[RZ] using h
  have:=rr o n z _ Δ h'
  rw[show o+1+n=o+n+1 by omega];simp at this ⊢;exact this
def lT:Value->χ
 | .agg cs=>cs.toList
 | v=>[v]
def xv:Value->Bool
 | .tuple _=>true
 | _=>false
def Fx(v:Value)(ht:xv v=false):v.cells=(lT v).toArray:=by
 cases v<;>simp[Value.cells,lT,xv] at ht ⊢
def rh(pl:List (Nat×Nat)):List (Nat×Value)->χ->Option (χ)
 | [],z=>some z
 | (i,v)::Δ,z=>match pl[i]? with
  | none=>none
  | some (off,sz)=>if xv v=false/\(lT v).length=sz then Sq off (lT v) z λz'=>rh pl Δ z' else none
def Jb(off:Nat)(cs z:χ)(h:off+cs.length<=z.length):(cs.toArray.zipIdx.foldl (λ (a:Array Value) (p:Value×Nat)=>a.setIfInBounds (off+p.2) p.1) z.toArray)=(z.take off++cs++z.drop (off+cs.length)).toArray:=by
 have A:∀(cs:χ) (k:Nat) (z:χ),off+k+cs.length<=z.length->(cs.zipIdx k).foldl (λ (a:Array Value) (p:Value×Nat)=>a.setIfInBounds (off+p.2) p.1) z.toArray=(z.take (off+k)++cs++z.drop (off+k+cs.length)).toArray:=by
  intro cs;induction cs with
  | nil=>intro k z _;simp
  | cons c cs ih =>
   intro k z hz;simp only[aL] at hz;simp only[List.zipIdx_cons,List.foldl_cons,List.setIfInBounds_toArray];rw[ih (k+1) (z.set (off+k) c) ib];congr 1;rw[show off+(k+1)=off+k+1 by omega,aB ib,List.getElem_set_self,List.take_set_of_le D,List.drop_set_of_lt D];simp only[aF,aq,av,aL];rw[show off+k+1+cs.length=off+k+(cs.length+1) by omega]
 have:=A cs 0 z D
 simpa using this
def sy(pl:List (Nat×Nat)):∀(vs:List (Nat×Value)) (z cs:χ),rh pl vs z=some cs->Instr.fill (λi=>pl.toArray[i]?) z.toArray vs=some cs.toArray
 | [],z,cs,h=>by simp[rh] at h;simp[Instr.fill,h]
 | (i,v)::Δ,z,cs,h=>by
  simp only[rh] at h;cases I:pl[i]? with
  | none=>rw[I] at h;cases h
  | some p =>
   obtain⟨off,sz⟩:=p;rw[I] at h;simp only at h;by_cases hc:xv v=false/\(lT v).length=sz
   .rw[Ω hc] at h;obtain⟨h3,h4⟩:=rz _ _ _ _ _ h;have ih:=sy pl Δ _ _ h4;have J:=hc.2;simp only[Instr.fill,List.getElem?_toArray,I,Fx v hc.1,gJ];have A:¬(decide ((lT v).length≠sz) || decide (off+(lT v).length>z.length))=true:=by simp[J];omega
    rw[Ο A,Jb off (lT v) z h3];simp only[List.getElem?_toArray] at ih;exact ih
   .rw[Ο hc] at h;cases h
def sx{α:Type}{Η:α->χ}{sz:Nat}(e:α):∀{G:List α} {j:Nat},(∀x∈G,(Η x).length=sz)->j<G.length->(G.set j e).flatMap Η=(G.flatMap Η).take (j*sz)++Η e++(G.flatMap Η).drop (j*sz+sz)
 | [],j,_,h=>by simp at h
 | x::G,0,hs,_=>by
  have M:=hs x (au ..);simp only[fU,aS,Nat.zero_mul,bA,av,dv];rw[<-M,List.drop_left]
 | x::G,j+1,hs,h=>by
  have M:=hs x (au ..);have ih:=sx e (G:=G) (j:=j) (λy U=>hs y (az _ U)) (by simpa using h);simp only[List.set_cons_succ,aS,ih];rw[show(j+1)*sz=(Η x).length+j*sz by rw[M,ig];omega,List.take_length_add_append,dc,List.drop_length_add_append];simp only[aF]
section
variable {P:Program}{N:Nat}{env:Env}{L:Ι}{ty:TypeId}{v:Value}
def Z.u6{t:TypeId}{ps:Array (Nat×Operand)}{vs:List (Nat×Value)}{pl:List (Nat×Nat)}{z cs:χ}[hs:OB P t pl][hz:Nj P t z](hv:kM env ps.toList=some vs)(hc:rh pl vs z=some cs):Z P L env (.build t ps) ty (.agg cs.toArray) :=
 Z.mk (λθ R ρ w ea s _ _ _ _=>by
  obtain⟨z0,I,Q⟩:=hz.run w;have he:=hs.eq;cases hu:P.underlying t with
  | none=>rw[hu] at he;cases he
  | some VT =>
   rw[hu] at he;cases VT<;>simp[sP] at he;rename_i fs;have hm:=oo (P:=P) (w:=w) fs.toList pl (by simpa using he)
   have A:ps.map (λp=>(p.1,ρ p.2))=vs.toArray:=by
    apply Array.ext';simpa using ea.pairs ps.toList vs hv
   have J : (fs.mapM λ (f:Field)=>do pure (f.offset,<-sizeOf f.type)).run P w=.ok pl.toArray w:=by
    have e:fs=fs.toList.toArray:=by simp
    rw[e,List.mapM_toArray];simp only[Sem.run_map,hm,Result.andThen_ok]
   have hf:=sy pl vs z cs hc;simp only[execOp,A,Instr.build,Sem.run_bind,I,Result.andThen_ok,run_underlying hu,J,Q];simp only[hf];simp)
def Z.c8{t:TypeId}{x:Operand}{b o an n:Nat}{cs vs:χ}{G1:Ι}[ht:Nw P t n][hp:Pq L b an cs G1](M:bG env x=some (.pointer (some ⟨b,o,none⟩)))(hs:RZ o n cs some=some vs):Z P L env (.load t x) ty (.agg vs.toArray) :=
 Z.mk (λθ R _ w ea s _ _ _ _=>by
  obtain⟨I,Q⟩:=rr _ _ _ _ _ hs;simp only[Option.some.injEq] at Q;subst Q;have hb:=s.TD hp.perm
  have T:=run_loadCells_list (P:=P) w ⟨b,o,none⟩ ((cs.drop o).take n) (λj v hv=>by
   have hj:j<n:=by have:=(List.getElem?_eq_some_iff.1 hv).1;simp at this;omega
   rw[iR,ej hb];simp[hj] at hv ⊢;exact hv)
  have A:((cs.drop o).take n).length=n:=by simp;omega
  rw[A] at T;simp[execOp,aI ea M,Instr.loadAt,Instr.sureAddr,loadVar,ht.run,Nw.QL,T])
def Ef.f8{t:TypeId}{x y:Operand}{b o an n:Nat}{cs vs A : χ}{G1:Ι}[ht:Nw P t n][hp:Pq L b an cs G1](M:bG env x=some (.pointer (some ⟨b,o,none⟩)))(U:bG env y=some (.agg vs.toArray))(hn:vs.length=n)(hs:Sq o vs cs some=some A)(I:∀v∈vs,v.oneCell' = true)
  : Ef P L env (.store t x y) ty (λ_ Ε=>Ε = obj b an A::G1) :=
 Ef.skip (λθ R a w ea s a2 pos af g=>by
  obtain⟨Q,h3⟩:=rz _ _ _ _ _ hs;simp only[Option.some.injEq] at h3;subst h3;have s1:=s.perm (hp.perm.append_right R);have hb:w.heap[b]? = some (.cells cs.toArray an (0,0)):=s1.M8;have J:=run_storeCells_at P b o an vs 0 cs.toArray w hb ib I;refine⟨w.setRow b (cs.take o++vs++cs.drop (o+vs.length)).toArray,_,?_,rfl,?_⟩
  .simp[execOp,aI ea M,aI ea U,Instr.storeAt,Instr.sureAddr,storeVar,Nw.QL,Value.cells,hn] at J ⊢;rw[J];simp
  .exact Sat.update s1 ⟨s.1.tape,s.1.os,s.1.output,s.1.drawn⟩ (setRow_heap w b _ _ an _ hb) (λj x hj M=>by rw[setRow_other w b j _ hj];exact M))
def Z.n5{t:TypeId}{x:Operand}{b m sz j o:Nat}{α:Type}[Inhabited α]{Η:α->χ}{G:List α}[ht:L8 P t][hr:F5 L (some ⟨b,0,none⟩) α Η sz G]
  (M:bG env x=some (.pointer (some ⟨b,m,none⟩))) (hm:m=j*sz+o) (hj:j<G.length) (ho:o<sz) (hv:(Η G[j]!)[o]? = some v):Z P L env (.load t x) ty v:=by
 refine Z.f7 (ad:=some ⟨b,0,none⟩) (sz:=sz) (j:=j) (o:=o) ?_ hj ho hv;rw[M,hm];simp only[OQ,fq,fV]
def Ef.k8{t:TypeId}{x y:Operand}{ad:OA}{sz j ζ cap:Nat}{α:Type}[Inhabited α]{Η:α->χ}{G:List α}{G1:Ι}{vs:χ}(e:α)[ht:Nw P t sz][hp:RH L ad α Η sz ζ cap G G1]
  (M:bG env x=some (.pointer (OQ ad sz j 0))) (U:bG env y=some (.agg vs.toArray)) (he:Η e=vs) (hn:vs.length=sz) (I:∀v∈vs,v.oneCell' = true) (hj:j<G.length) :
  Ef P L env (.store t x y) ty (λ_ Ε=>Ε = μ Η sz ζ ad cap (G.set j e)::G1) :=
 Ef.skip (λθ R ρ w ea s b0 pos af g=>by
  have s1:=s.perm (hp.perm.append_right R);obtain⟨p1,p2,p3,p4⟩:=Sat.Qw s1;rcases p4 with⟨rfl,rfl⟩|⟨gb,A,rfl,f1,f2,f3⟩
  .omega
  .have hb:w.heap[gb]? = some (.cells A ζ (0,0)):=f3.M8;have J:(j+1)*sz<=G.length*sz:=bS _ hj;rw[ig] at J;have a4:=bS sz p2;have a2:=run_storeCells_at P gb (j*sz) ζ vs 0 A w hb D I
   have a5:∀y∈G.set j e,(Η y).length=sz:=by
    intro y a9;rcases List.mem_or_eq_of_mem_set a9 with h|h
    .exact p1 y h
    .subst h;rw[he];exact hn
   have a7 : bG env x=some (.pointer (some ⟨gb,j*sz,none⟩)):=by rw[M];simp only[OQ,fq,fV,dw]
   refine⟨w.setRow gb (A.toList.take (j*sz)++vs++A.toList.drop (j*sz+sz)).toArray,_,?_,rfl,?_⟩
   .simp[execOp,aI ea a7,aI ea U,Instr.storeAt,Instr.sureAddr,storeVar,Nw.QL,Value.cells,hn] at a2 ⊢;rw[a2];simp
   .have s3:Sat θ (sh gb (.cells (A.toList.take (j*sz)++vs++A.toList.drop (j*sz+sz)).toArray ζ (0,0))::(G1++R)) (w.setRow gb (A.toList.take (j*sz)++vs++A.toList.drop (j*sz+sz)).toArray) :=
     Sat.update f3 ⟨s.1.tape,s.1.os,s.1.output,s.1.drawn⟩ (setRow_heap w gb _ _ ζ _ hb) (λk x hk M=>by rw[setRow_other w gb k _ hk];exact M)
    refine Sat.Rm (L:=G1++R) s3 a5 (by simpa using p2) p3 ?_ ?_
    .simp[hn];omega
    .have a6:(A.toList.take (j*sz)).length=j*sz:=by simp;omega
     rw[sx e p1 hj,<-f2,he,bU,List.take_take,dE D,List.drop_take];simp only;have a3:(A.toList.take (j*sz)++vs).length=j*sz+sz:=by rw[aA,a6,hn]
     rw[List.take_append,a3,aN (l:=A.toList.take (j*sz)++vs) D])
def vI{α:Type}{Η:α->χ}{z:Array Value}{e:α}(he:Η e=z.toList)(hz:0<z.size)(n:Nat):((List.replicate n e).flatMap Η).toArray=madeCells z (n*z.size):=by
 apply Array.ext
 .simp[madeCells,dd (Η:=Η) (sz:=z.size) (G:=List.replicate n e) (λx M=>by rw[fP M,he];simp)]
 .intro i I Q;simp only[madeCells,Array.getElem_map,Array.getElem_range]
  have A:((List.replicate n e).flatMap Η).length=n*z.size:=by
   have:=dd (Η:=Η) (sz:=z.size) (G:=List.replicate n e) (λx M=>by rw[fP M,he];simp)
   simpa using this
  have hi:i<n*z.size:=by simpa [A] using I
  have hq:i / z.size<n:=(fy hz).2 hi;have hr:=dW i hz;have hd:=fQ i z.size;haveI:Inhabited α:=⟨e⟩
  have:=nw (Η:=Η) (sz:=z.size) (G:=List.replicate n e) (λx M=>by rw[fP M,he];simp) (j:=i / z.size) (o:=i % z.size) (by simpa using hq) hr
  rw[show i / z.size*z.size+i % z.size=i by rw[Nat.mul_comm];exact hd] at this;rw[List.getElem!_eq_getElem?_getD,List.getElem?_replicate,Ω hq] at this;simp only[Option.getD_some,he] at this;rw[List.getElem?_eq_getElem D] at this;simp only[Array.getElem?_toList,Array.getElem?_eq_getElem hr,Option.some.injEq] at this;simp only[List.getElem_toArray,this];rw[getElem!_pos z (i % z.size) hr]
def Ef.j7{t:TypeId}{x y:Operand}{ζ sz bb:Nat}{z:χ}{α:Type}(Η:α->χ)(e:α){n c:Int}[ht:M9 P t ζ sz bb z](M:bG env x=some (K n))(U:bG env y=some (K c))(he:Η e=z)(h0:0<=n)(hc:n<=c)(I:c*bb<=16777216)(Q:c<=1000000000) :
  Ef P L env (.makeSlice t x y) ty (λv Ε=>∃b,v=.slice (some ⟨b,0,none⟩) n.toNat c.toNat/\Ε = μ Η sz ζ (some ⟨b,0,none⟩) c.toNat (List.replicate n.toNat e)::L) :=
 Ef.val (λθ R a w ea s a3 pos af g=>by
  obtain⟨ii,zz,i1,i2,i3,i4,i5⟩:=ht.Γ;have a2:zz.cells.size=sz:=by rw[<-dY,i3];exact ht.Tf
  have J:=ht.pos;have hk:=run_make (P:=P) w t ζ ii zz ht.under i1 i2 .i64 .i64 n c h0 hc (by rw[i5,Int.mul_comm];omega) D;rw[i4,<-a2,<-vI (Η:=Η) (e:=e) (by rw[he,i3]) D] at hk;refine⟨.slice (some ⟨w.heap.size,0,none⟩) n.toNat c.toNat,w.alloc (.cells ((List.replicate c.toNat e).flatMap Η).toArray ζ),_,by simp[execOp,aI ea M,aI ea U,hk],⟨_,rfl,rfl⟩,?_⟩;have s1:=s.alloc (o:=.cells ((List.replicate c.toNat e).flatMap Η).toArray ζ);have A:∀(k:Nat),∀x∈List.replicate k e,(Η x).length=sz:=λk x M=>by rw[fP M,he];exact ht.Tf
  refine Sat.Rm (Η:=Η) (sz:=sz) (cap:=c.toNat) (G:=List.replicate n.toNat e) (L:=L++R) s1 (A _) ib (by simp only[maxLen];omega) ?_ ?_
  .simp only[gJ];rw[dd (A _),List.length_replicate]
  .have e1:List.replicate c.toNat e=List.replicate n.toNat e++List.replicate (c.toNat - n.toNat) e:=by
    rw[List.replicate_append_replicate];congr 1;omega
   rw[e1,dJ];simp only;rw[List.take_append_of_le_length (by rw[dd (A _)];exact ax _),aN (by rw[dd (A _)];exact ax _)])
end
end
end Go.V
namespace Go.Proofs.YtlgpgjdggilkgaaGreatDoor
open Go.V
noncomputable abbrev Λ:=Tryz.prog
instance:L8 Λ 3:=⟨λ_=>Θ,Θ⟩
instance:Qv Λ 3 .i64:=⟨Θ⟩
instance:Nj Λ 3 [K 0]:=⟨Θ⟩
instance:L8 Λ 4:=⟨λ_=>Θ,Θ⟩
instance:L8 Λ 5:=⟨λ_=>Θ,Θ⟩
instance:Qv Λ 5 .u8:=⟨Θ⟩
instance:L8 Λ 9:=⟨λ_=>Θ,Θ⟩
instance:Ub Λ 9:=⟨Θ⟩
instance:L8 Λ 22:=⟨λ_=>Θ,Θ⟩
instance:M9 Λ 22 3 1 8 [K 0]:=⟨Θ,Θ,by decide,by decide⟩
instance:Nj Λ 22 [ae none 0 0]:=⟨Θ⟩
instance:L8 Λ 29:=⟨λ_=>Θ,Θ⟩
instance:Nj Λ 29 [K 0]:=⟨Θ⟩
instance:L8 Λ 32:=⟨λ_=>Θ,Θ⟩
instance:M9 Λ 32 65 5 56 [K 0,K 0,K 0,K 0,ae none 0 0]:=⟨Θ,Θ,by decide,by decide⟩
instance:Nw Λ 34 5:=⟨λ_=>Θ,Θ⟩
instance:dh Λ 34 0 0:=dh.of 0 Θ
instance:dh Λ 34 1 1:=dh.of 0 Θ
instance:dh Λ 34 2 2:=dh.of 0 Θ
instance:dh Λ 34 3 3:=dh.of 0 Θ
instance:dh Λ 34 4 4:=dh.of 0 Θ
instance:OB Λ 34 [(0,1),(1,1),(2,1),(3,1),(4,1)]:=⟨Θ⟩
instance:Nj Λ 34 [K 0,K 0,K 0,ae none 0 0,K 0]:=⟨Θ⟩
instance:L8 Λ 35:=⟨λ_=>Θ,Θ⟩
instance:M9 Λ 35 47 3 24 [K 0,K 0,K 0]:=⟨Θ,Θ,by decide,by decide⟩
instance:Nj Λ 35 [ae none 0 0]:=⟨Θ⟩
instance:L8 Λ 36:=⟨λ_=>Θ,Θ⟩
instance:M9 Λ 36 45 11 120 [K 0,K 0,K 0,K 0,K 0,K 0,K 0,K 0,K 0,ae none 0 0,ae none 0 0]:=⟨Θ,Θ,by decide,by decide⟩
instance:L8 Λ 37:=⟨λ_=>Θ,Θ⟩
instance:T9 Λ 37:=⟨⟨130,Θ⟩⟩
instance:L8 Λ 38:=⟨λ_=>Θ,Θ⟩
instance:M9 Λ 38 37 1 8 [.pointer none]:=⟨Θ,Θ,by decide,by decide⟩
instance:L8 Λ 39:=⟨λ_=>Θ,Θ⟩
instance:M9 Λ 39 62 1 8 [.pointer none]:=⟨Θ,Θ,by decide,by decide⟩
instance:L8 Λ 40:=⟨λ_=>Θ,Θ⟩
instance:M9 Λ 40 98 3 40 [K 0,K 0,ae none 0 0]:=⟨Θ,Θ,by decide,by decide⟩
instance:Nj Λ 40 [ae none 0 0]:=⟨Θ⟩
instance:dh Λ 42 0 0:=dh.of 0 Θ
instance:dh Λ 42 1 1:=dh.of 0 Θ
instance:dh Λ 42 2 2:=dh.of 0 Θ
instance:dh Λ 42 3 3:=dh.of 0 Θ
instance:dh Λ 42 4 4:=dh.of 0 Θ
instance:OB Λ 42 [(0,1),(1,1),(2,1),(3,1),(4,1)]:=⟨Θ⟩
instance:Nj Λ 42 [ae none 0 0,ae none 0 0,ae none 0 0,K 0,ae none 0 0]:=⟨Θ⟩
instance:Nw Λ 45 11:=⟨λ_=>Θ,Θ⟩
instance:dh Λ 45 0 0:=dh.of 0 Θ
instance:dh Λ 45 2 2:=dh.of 0 Θ
instance:dh Λ 45 8 8:=dh.of 0 Θ
instance:dh Λ 45 9 9:=dh.of 0 Θ
instance:dh Λ 45 10 10:=dh.of 0 Θ
instance:OB Λ 45 [(0,1),(1,1),(2,1),(3,1),(4,1),(5,1),(6,1),(7,1),(8,1),(9,1),(10,1)]:=⟨Θ⟩
instance:Nj Λ 45 [K 0,K 0,K 0,K 0,K 0,K 0,K 0,K 0,K 0,ae none 0 0,ae none 0 0]:=⟨Θ⟩
instance:Nw Λ 47 3:=⟨λ_=>Θ,Θ⟩
instance:dh Λ 47 0 0:=dh.of 0 Θ
instance:dh Λ 47 1 1:=dh.of 0 Θ
instance:dh Λ 47 2 2:=dh.of 0 Θ
instance:OB Λ 47 [(0,1),(1,1),(2,1)]:=⟨Θ⟩
instance:Nj Λ 47 [K 0,K 0,K 0]:=⟨Θ⟩
instance:L8 Λ 48:=⟨λ_=>Θ,Θ⟩
instance:M9 Λ 56 73 3 24 [K 0,K 0,K 0]:=⟨Θ,Θ,by decide,by decide⟩
instance:Qv Λ 61 .u64:=⟨Θ⟩
instance:L8 Λ 62:=⟨λ_=>Θ,Θ⟩
instance:T9 Λ 62:=⟨⟨147,Θ⟩⟩
instance:L8 Λ 63:=⟨λ_=>Θ,Θ⟩
instance:M9 Λ 63 67 2 16 [K 0,K 0]:=⟨Θ,Θ,by decide,by decide⟩
instance:Nw Λ 65 5:=⟨λ_=>Θ,Θ⟩
instance:dh Λ 65 0 0:=dh.of 0 Θ
instance:dh Λ 65 1 1:=dh.of 0 Θ
instance:dh Λ 65 2 2:=dh.of 0 Θ
instance:dh Λ 65 3 3:=dh.of 0 Θ
instance:dh Λ 65 4 4:=dh.of 0 Θ
instance:OB Λ 65 [(0,1),(1,1),(2,1),(3,1),(4,1)]:=⟨Θ⟩
instance:Nj Λ 65 [K 0,K 0,K 0,K 0,ae none 0 0]:=⟨Θ⟩
instance:Nw Λ 67 2:=⟨λ_=>Θ,Θ⟩
instance:dh Λ 67 0 0:=dh.of 0 Θ
instance:dh Λ 67 1 1:=dh.of 0 Θ
instance:OB Λ 67 [(0,1),(1,1)]:=⟨Θ⟩
instance:Nj Λ 67 [K 0,K 0]:=⟨Θ⟩
instance:Nw Λ 73 3:=⟨λ_=>Θ,Θ⟩
instance:dh Λ 73 0 0:=dh.of 0 Θ
instance:dh Λ 73 1 1:=dh.of 0 Θ
instance:OB Λ 73 [(0,1),(1,1),(2,1)]:=⟨Θ⟩
instance:Nj Λ 73 [K 0,K 0,K 0]:=⟨Θ⟩
instance:L8 Λ 85:=⟨λ_=>Θ,Θ⟩
instance:M9 Λ 85 134 5 56 [K 0,K 0,K 0,K 0,ae none 0 0]:=⟨Θ,Θ,by decide,by decide⟩
instance:Nw Λ 87 7:=⟨λ_=>Θ,Θ⟩
instance:dh Λ 87 0 0:=dh.of 0 Θ
instance:dh Λ 87 1 1:=dh.of 0 Θ
instance:dh Λ 87 2 2:=dh.of 0 Θ
instance:dh Λ 87 3 3:=dh.of 0 Θ
instance:dh Λ 87 4 4:=dh.of 0 Θ
instance:dh Λ 87 5 5:=dh.of 0 Θ
instance:dh Λ 87 6 6:=dh.of 0 Θ
instance:OB Λ 87 [(0,1),(1,1),(2,1),(3,1),(4,1),(5,1),(6,1)]:=⟨Θ⟩
instance:Nj Λ 87 [K 0,K 0,K 0,K 0,K 0,K 0,ae none 0 0]:=⟨Θ⟩
instance:L8 Λ 89:=⟨λ_=>Θ,Θ⟩
instance:M9 Λ 89 135 5 56 [K 0,K 0,K 0,K 0,ae none 0 0]:=⟨Θ,Θ,by decide,by decide⟩
instance:L8 Λ 96:=⟨λ_=>Θ,Θ⟩
instance:M9 Λ 96 5 1 1 [.int .u8 0]:=⟨Θ,Θ,by decide,by decide⟩
instance:Nw Λ 98 3:=⟨λ_=>Θ,Θ⟩
instance:dh Λ 98 0 0:=dh.of 0 Θ
instance:dh Λ 98 1 1:=dh.of 0 Θ
instance:dh Λ 98 2 2:=dh.of 0 Θ
instance:OB Λ 98 [(0,1),(1,1),(2,1)]:=⟨Θ⟩
instance:Nj Λ 98 [K 0,K 0,ae none 0 0]:=⟨Θ⟩
instance:L8 Λ 111:=⟨λ_=>Θ,Θ⟩
instance:M9 Λ 111 214 7 48 [.string ⟨#[]⟩,.bool false,.bool false,.bool false,K 0,K 0,K 0]:=⟨Θ,Θ,by decide,by decide⟩
instance:L8 Λ 112:=⟨λ_=>Θ,Θ⟩
instance:M9 Λ 112 267 9 128 [.string ⟨#[]⟩,.bool false,K 0,K 0,K 0,K 0,ae none 0 0,ae none 0 0,ae none 0 0]:=⟨Θ,Θ,by decide,by decide⟩
instance:L8 Λ 113:=⟨λ_=>Θ,Θ⟩
instance:M9 Λ 113 272 2 40 [.string ⟨#[]⟩,ae none 0 0]:=⟨Θ,Θ,by decide,by decide⟩
instance:L8 Λ 114:=⟨λ_=>Θ,Θ⟩
instance:M9 Λ 114 277 2 40 [.string ⟨#[]⟩,ae none 0 0]:=⟨Θ,Θ,by decide,by decide⟩
instance:Nw Λ 116 4:=⟨λ_=>Θ,Θ⟩
instance:dh Λ 116 0 0:=dh.of 0 Θ
instance:dh Λ 116 1 1:=dh.of 0 Θ
instance:dh Λ 116 2 2:=dh.of 0 Θ
instance:dh Λ 116 3 3:=dh.of 0 Θ
instance:OB Λ 116 [(0,1),(1,1),(2,1),(3,1)]:=⟨Θ⟩
instance:Nj Λ 116 [ae none 0 0,ae none 0 0,ae none 0 0,ae none 0 0]:=⟨Θ⟩
instance:L8 Λ 118:=⟨λ_=>Θ,Θ⟩
instance:M9 Λ 118 87 7 72 [K 0,K 0,K 0,K 0,K 0,K 0,ae none 0 0]:=⟨Θ,Θ,by decide,by decide⟩
instance:L8 Λ 126:=⟨λ_=>Θ,Θ⟩
instance:L8 Λ 127:=⟨λ_=>Θ,Θ⟩
instance:L8 Λ 128:=⟨λ_=>Θ,Θ⟩
instance:dh Λ 130 0 0:=dh.of 0 Θ
instance:dh Λ 130 1 1:=dh.of 3 Θ
instance:dh Λ 130 2 5:=dh.of 0 Θ
instance:dh Λ 130 3 6:=dh.of 0 Θ
instance:dh Λ 130 4 7:=dh.of 0 Θ
instance:dh Λ 130 5 8:=dh.of 0 Θ
instance:dh Λ 130 6 9:=dh.of 0 Θ
instance:dh Λ 130 7 10:=dh.of 0 Θ
instance:OB Λ 130 [(0,1),(1,4),(5,1),(6,1),(7,1),(8,1),(9,1),(10,1)]:=⟨Θ⟩
instance:Nj Λ 130 [K 0,ae none 0 0,ae none 0 0,ae none 0 0,ae none 0 0,.map none,.map none,ae none 0 0,ae none 0 0,.map none,.map none]:=⟨Θ⟩
instance:Nw Λ 134 5:=⟨λ_=>Θ,Θ⟩
instance:dh Λ 134 0 0:=dh.of 0 Θ
instance:dh Λ 134 1 1:=dh.of 0 Θ
instance:dh Λ 134 2 2:=dh.of 0 Θ
instance:dh Λ 134 3 3:=dh.of 0 Θ
instance:dh Λ 134 4 4:=dh.of 0 Θ
instance:OB Λ 134 [(0,1),(1,1),(2,1),(3,1),(4,1)]:=⟨Θ⟩
instance:Nj Λ 134 [K 0,K 0,K 0,K 0,ae none 0 0]:=⟨Θ⟩
instance:Nw Λ 135 5:=⟨λ_=>Θ,Θ⟩
instance:dh Λ 135 0 0:=dh.of 0 Θ
instance:dh Λ 135 1 1:=dh.of 0 Θ
instance:dh Λ 135 2 2:=dh.of 0 Θ
instance:dh Λ 135 3 3:=dh.of 0 Θ
instance:dh Λ 135 4 4:=dh.of 0 Θ
instance:OB Λ 135 [(0,1),(1,1),(2,1),(3,1),(4,1)]:=⟨Θ⟩
instance:Nj Λ 135 [K 0,K 0,K 0,K 0,ae none 0 0]:=⟨Θ⟩
instance:Nw Λ 137 2:=⟨λ_=>Θ,Θ⟩
instance:dh Λ 137 0 0:=dh.of 0 Θ
instance:dh Λ 137 1 1:=dh.of 0 Θ
instance:OB Λ 137 [(0,1),(1,1)]:=⟨Θ⟩
instance:Nj Λ 137 [K 0,K 0]:=⟨Θ⟩
instance:T9 Λ 141:=⟨⟨150,Θ⟩⟩
instance:L8 Λ 143:=⟨λ_=>Θ,Θ⟩
instance:L8 Λ 144:=⟨λ_=>Θ,Θ⟩
instance:L8 Λ 145:=⟨λ_=>Θ,Θ⟩
instance:dh Λ 147 0 0:=dh.of 0 Θ
instance:dh Λ 147 1 1:=dh.of 0 Θ
instance:dh Λ 147 2 2:=dh.of 0 Θ
instance:dh Λ 147 3 3:=dh.of 0 Θ
instance:dh Λ 147 4 4:=dh.of 0 Θ
instance:dh Λ 147 5 5:=dh.of 0 Θ
instance:dh Λ 147 6 6:=dh.of 0 Θ
instance:dh Λ 147 7 7:=dh.of 0 Θ
instance:OB Λ 147 [(0,1),(1,1),(2,1),(3,1),(4,1),(5,1),(6,1),(7,1)]:=⟨Θ⟩
instance:Nj Λ 147 [.pointer none,K 0,K 0,K 0,K 0,.map none,.map none,.map none]:=⟨Θ⟩
instance:L8 Λ 148:=⟨λ_=>Θ,Θ⟩
instance:dh Λ 150 0 0:=dh.of 0 Θ
instance:dh Λ 150 1 1:=dh.of 0 Θ
instance:dh Λ 150 2 2:=dh.of 0 Θ
instance:dh Λ 150 3 3:=dh.of 0 Θ
instance:dh Λ 150 4 4:=dh.of 0 Θ
instance:dh Λ 150 5 5:=dh.of 0 Θ
instance:dh Λ 150 6 6:=dh.of 0 Θ
instance:OB Λ 150 [(0,1),(1,1),(2,1),(3,1),(4,1),(5,1),(6,1)]:=⟨Θ⟩
instance:Nj Λ 150 [ae none 0 0,ae none 0 0,K 0,.map none,.map none,.bool false,.bool false]:=⟨Θ⟩
instance:L8 Λ 153:=⟨λ_=>Θ,Θ⟩
instance:M9 Λ 153 197 8 96 [K 0,K 0,K 0,K 0,ae none 0 0,K 0,K 0,ae none 0 0]:=⟨Θ,Θ,by decide,by decide⟩
instance:dh Λ 155 0 0:=dh.of 0 Θ
instance:dh Λ 155 1 1:=dh.of 0 Θ
instance:dh Λ 155 2 2:=dh.of 0 Θ
instance:OB Λ 155 [(0,1),(1,1),(2,1)]:=⟨Θ⟩
instance:Nj Λ 155 [K 0,K 0,ae none 0 0]:=⟨Θ⟩
instance:Nw Λ 157 2:=⟨λ_=>Θ,Θ⟩
instance:dh Λ 157 0 0:=dh.of 0 Θ
instance:OB Λ 157 [(0,1),(1,1)]:=⟨Θ⟩
instance:Nj Λ 157 [K 0,K 0]:=⟨Θ⟩
instance:L8 Λ 159:=⟨λ_=>Θ,Θ⟩
instance:dh Λ 178 0 0:=dh.of 0 Θ
instance:dh Λ 178 1 1:=dh.of 6 Θ
instance:dh Λ 178 2 8:=dh.of 0 Θ
instance:dh Λ 178 3 9:=dh.of 0 Θ
instance:dh Λ 178 4 10:=dh.of 0 Θ
instance:dh Λ 178 5 11:=dh.of 0 Θ
instance:dh Λ 178 6 12:=dh.of 0 Θ
instance:dh Λ 178 7 13:=dh.of 0 Θ
instance:OB Λ 178 [(0,1),(1,7),(8,1),(9,1),(10,1),(11,1),(12,1),(13,1)]:=⟨Θ⟩
instance:Nj Λ 178 [.pointer none,K 0,K 0,K 0,K 0,K 0,K 0,ae none 0 0,.map none,.map none,.map none,.map none,ae none 0 0,ae none 0 0]:=⟨Θ⟩
instance:Nw Λ 197 8:=⟨λ_=>Θ,Θ⟩
instance:dh Λ 197 0 0:=dh.of 4 Θ
instance:dh Λ 197 1 5:=dh.of 0 Θ
instance:dh Λ 197 2 6:=dh.of 0 Θ
instance:dh Λ 197 3 7:=dh.of 0 Θ
instance:OB Λ 197 [(0,5),(5,1),(6,1),(7,1)]:=⟨Θ⟩
instance:Nj Λ 197 [K 0,K 0,K 0,K 0,ae none 0 0,K 0,K 0,ae none 0 0]:=⟨Θ⟩
instance:L8 Λ 202:=⟨λ_=>Θ,Θ⟩
instance:M9 Λ 202 293 1 8 [.int .u64 0]:=⟨Θ,Θ,by decide,by decide⟩
instance:Nj Λ 202 [ae none 0 0]:=⟨Θ⟩
instance:Nw Λ 214 7:=⟨λ_=>Θ,Θ⟩
instance:dh Λ 214 0 0:=dh.of 0 Θ
instance:dh Λ 214 1 1:=dh.of 0 Θ
instance:dh Λ 214 2 2:=dh.of 0 Θ
instance:dh Λ 214 3 3:=dh.of 0 Θ
instance:dh Λ 214 4 4:=dh.of 0 Θ
instance:dh Λ 214 5 5:=dh.of 0 Θ
instance:dh Λ 214 6 6:=dh.of 0 Θ
instance:OB Λ 214 [(0,1),(1,1),(2,1),(3,1),(4,1),(5,1),(6,1)]:=⟨Θ⟩
instance:Nj Λ 214 [.string ⟨#[]⟩,.bool false,.bool false,.bool false,K 0,K 0,K 0]:=⟨Θ⟩
instance:Nw Λ 222 6:=⟨λ_=>Θ,Θ⟩
instance:dh Λ 222 0 0:=dh.of 0 Θ
instance:dh Λ 222 1 1:=dh.of 0 Θ
instance:dh Λ 222 2 2:=dh.of 0 Θ
instance:dh Λ 222 3 3:=dh.of 0 Θ
instance:dh Λ 222 4 4:=dh.of 0 Θ
instance:dh Λ 222 5 5:=dh.of 0 Θ
instance:OB Λ 222 [(0,1),(1,1),(2,1),(3,1),(4,1),(5,1)]:=⟨Θ⟩
instance:Nj Λ 222 [K 0,K 0,K 0,.bool false,ae none 0 0,ae none 0 0]:=⟨Θ⟩
instance:L8 Λ 248:=⟨λ_=>Θ,Θ⟩
instance:Nj Λ 248 [.nilFunc]:=⟨Θ⟩
instance:L8 Λ 293:=⟨λ_=>Θ,Θ⟩
instance:Qv Λ 293 .u64:=⟨Θ⟩
instance:L8 Λ 297:=⟨λ_=>Θ,Θ⟩
instance:Nw Λ 299 4:=⟨λ_=>Θ,Θ⟩
instance:dh Λ 299 0 0:=dh.of 0 Θ
instance:dh Λ 299 1 1:=dh.of 0 Θ
instance:dh Λ 299 2 2:=dh.of 0 Θ
instance:dh Λ 299 3 3:=dh.of 0 Θ
instance:OB Λ 299 [(0,1),(1,1),(2,1),(3,1)]:=⟨Θ⟩
instance:Nj Λ 299 [.nilFunc,.nilFunc,.bool false,.nilFunc]:=⟨Θ⟩
instance:L8 Λ 330:=⟨λ_=>Θ,Θ⟩
instance:Nj Λ 330 [.nilFunc]:=⟨Θ⟩
instance:dh Λ 363 0 0:=dh.of 0 Θ
instance:dh Λ 363 1 1:=dh.of 0 Θ
instance:OB Λ 363 [(0,1),(1,1)]:=⟨Θ⟩
instance:Nj Λ 363 [ae none 0 0,K 0]:=⟨Θ⟩
instance:dh Λ 368 0 0:=dh.of 0 Θ
instance:OB Λ 368 [(0,1)]:=⟨Θ⟩
instance:Nj Λ 368 [ae none 0 0]:=⟨Θ⟩
instance:L8 Λ 370:=⟨λ_=>Θ,Θ⟩
instance:M9 Λ 370 374 4 40 [K 0,.string ⟨#[]⟩,K 0,K 0]:=⟨Θ,Θ,by decide,by decide⟩
instance:Nj Λ 370 [ae none 0 0]:=⟨Θ⟩
instance:Nw Λ 374 4:=⟨λ_=>Θ,Θ⟩
instance:dh Λ 374 0 0:=dh.of 0 Θ
instance:dh Λ 374 1 1:=dh.of 0 Θ
instance:OB Λ 374 [(0,1),(1,1),(2,1),(3,1)]:=⟨Θ⟩
instance:Nj Λ 374 [K 0,.string ⟨#[]⟩,K 0,K 0]:=⟨Θ⟩
instance Z5:En Λ 5 Tryz.f5 197:=⟨λ_ _=>Θ,Tryz.func5,rfl⟩
instance Z6:En Λ 10 Tryz.f10 13:=⟨λ_ _=>Θ,Tryz.func10,rfl⟩
instance Z7:En Λ 11 Tryz.f11 94:=⟨λ_ _=>Θ,Tryz.func11,rfl⟩
instance Z8:En Λ 13 Tryz.f13 195:=⟨λ_ _=>Θ,Tryz.func13,rfl⟩
instance Z9:En Λ 17 Tryz.f17 8:=⟨λ_ _=>Θ,Tryz.func17,rfl⟩
instance aaa:En Λ 20 Tryz.f20 149:=⟨λ_ _=>Θ,Tryz.func20,rfl⟩
instance Xa:En Λ 21 Tryz.f21 35:=⟨λ_ _=>Θ,Tryz.func21,rfl⟩
instance aab:En Λ 22 Tryz.f22 103:=⟨λ_ _=>Θ,Tryz.func22,rfl⟩
instance aac:En Λ 23 Tryz.f23 62:=⟨λ_ _=>Θ,Tryz.func23,rfl⟩
instance aad:En Λ 24 Tryz.f24 7:=⟨λ_ _=>Θ,Tryz.func24,rfl⟩
instance aae:En Λ 26 Tryz.f26 74:=⟨λ_ _=>Θ,Tryz.func26,rfl⟩
instance aaf:En Λ 27 Tryz.f27 33:=⟨λ_ _=>Θ,Tryz.func27,rfl⟩
instance aag:En Λ 30 Tryz.f30 100:=⟨λ_ _=>Θ,Tryz.func30,rfl⟩
instance aah:En Λ 31 Tryz.f31 22:=⟨λ_ _=>Θ,Tryz.func31,rfl⟩
instance aai:En Λ 38 Tryz.f38 43:=⟨λ_ _=>Θ,Tryz.func38,rfl⟩
instance aaj:En Λ 41 Tryz.f41 113:=⟨λ_ _=>Θ,Tryz.func41,rfl⟩
instance aak:En Λ 46 Tryz.f46 27:=⟨λ_ _=>Θ,Tryz.func46,rfl⟩
instance aal:En Λ 47 Tryz.f47 7:=⟨λ_ _=>Θ,Tryz.func47,rfl⟩
instance aam:En Λ 48 Tryz.f48 32:=⟨λ_ _=>Θ,Tryz.func48,rfl⟩
instance aan:En Λ 49 Tryz.f49 35:=⟨λ_ _=>Θ,Tryz.func49,rfl⟩
instance aao:En Λ 50 Tryz.f50 89:=⟨λ_ _=>Θ,Tryz.func50,rfl⟩
instance aap:En Λ 51 Tryz.f51 41:=⟨λ_ _=>Θ,Tryz.func51,rfl⟩
instance aaq:En Λ 52 Tryz.f52 29:=⟨λ_ _=>Θ,Tryz.func52,rfl⟩
instance aar:En Λ 53 Tryz.f53 12:=⟨λ_ _=>Θ,Tryz.func53,rfl⟩
instance aas:En Λ 54 Tryz.f54 18:=⟨λ_ _=>Θ,Tryz.func54,rfl⟩
instance aat:En Λ 55 Tryz.f55 18:=⟨λ_ _=>Θ,Tryz.func55,rfl⟩
instance aau:En Λ 56 Tryz.f56 80:=⟨λ_ _=>Θ,Tryz.func56,rfl⟩
instance aav:En Λ 58 Tryz.f58 16:=⟨λ_ _=>Θ,Tryz.func58,rfl⟩
def YU:Enters Λ 59:=λ_ _=>Θ
instance YV:En Λ 60 Tryz.f60 17:=⟨λ_ _=>Θ,Tryz.func60,rfl⟩
instance aaw:En Λ 61 Tryz.f61 18:=⟨λ_ _=>Θ,Tryz.func61,rfl⟩
instance aax:En Λ 62 Tryz.f62 20:=⟨λ_ _=>Θ,Tryz.func62,rfl⟩
instance aay:En Λ 63 Tryz.f63 42:=⟨λ_ _=>Θ,Tryz.func63,rfl⟩
instance aaz:En Λ 64 Tryz.f64 34:=⟨λ_ _=>Θ,Tryz.func64,rfl⟩
instance aaA:En Λ 65 Tryz.f65 8:=⟨λ_ _=>Θ,Tryz.func65,rfl⟩
instance aaB:En Λ 66 Tryz.f66 62:=⟨λ_ _=>Θ,Tryz.func66,rfl⟩
instance aaC:En Λ 67 Tryz.f67 21:=⟨λ_ _=>Θ,Tryz.func67,rfl⟩
instance aaD:En Λ 68 Tryz.f68 39:=⟨λ_ _=>Θ,Tryz.func68,rfl⟩
instance aaE:En Λ 69 Tryz.f69 33:=⟨λ_ _=>Θ,Tryz.func69,rfl⟩
instance aaF:En Λ 76 Tryz.f76 62:=⟨λ_ _=>Θ,Tryz.func76,rfl⟩
instance aaG:En Λ 77 Tryz.f77 16:=⟨λ_ _=>Θ,Tryz.func77,rfl⟩
instance aaH:En Λ 78 Tryz.f78 16:=⟨λ_ _=>Θ,Tryz.func78,rfl⟩
instance aaI:En Λ 85 Tryz.f85 15:=⟨λ_ _=>Θ,Tryz.func85,rfl⟩
instance aaJ:En Λ 86 Tryz.f86 23:=⟨λ_ _=>Θ,Tryz.func86,rfl⟩
instance aaK:En Λ 87 Tryz.f87 37:=⟨λ_ _=>Θ,Tryz.func87,rfl⟩
instance aaL:En Λ 96 Tryz.f96 51:=⟨λ_ _=>Θ,Tryz.func96,rfl⟩
instance aaM:En Λ 97 Tryz.f97 104:=⟨λ_ _=>Θ,Tryz.func97,rfl⟩
instance aaN:En Λ 98 Tryz.f98 31:=⟨λ_ _=>Θ,Tryz.func98,rfl⟩
instance aaO:En Λ 102 Tryz.f102 8:=⟨λ_ _=>Θ,Tryz.func102,rfl⟩
instance aaP:En Λ 105 Tryz.f105 59:=⟨λ_ _=>Θ,Tryz.func105,rfl⟩
instance aaQ:En Λ 107 Tryz.f107 23:=⟨λ_ _=>Θ,Tryz.func107,rfl⟩
instance aaR:En Λ 108 Tryz.f108 16:=⟨λ_ _=>Θ,Tryz.func108,rfl⟩
instance aaS:En Λ 109 Tryz.f109 67:=⟨λ_ _=>Θ,Tryz.func109,rfl⟩
instance aaT:En Λ 110 Tryz.f110 29:=⟨λ_ _=>Θ,Tryz.func110,rfl⟩
instance aaU:En Λ 111 Tryz.f111 8:=⟨λ_ _=>Θ,Tryz.func111,rfl⟩
instance aaV:En Λ 112 Tryz.f112 9:=⟨λ_ _=>Θ,Tryz.func112,rfl⟩
instance aaW:En Λ 113 Tryz.f113 8:=⟨λ_ _=>Θ,Tryz.func113,rfl⟩
instance aaX:En Λ 114 Tryz.f114 34:=⟨λ_ _=>Θ,Tryz.func114,rfl⟩
instance aaY:En Λ 115 Tryz.f115 8:=⟨λ_ _=>Θ,Tryz.func115,rfl⟩
instance aaZ:En Λ 116 Tryz.f116 29:=⟨λ_ _=>Θ,Tryz.func116,rfl⟩
def ME:Enters Λ 117:=λ_ _=>Θ
instance YW:En Λ 118 Tryz.f118 17:=⟨λ_ _=>Θ,Tryz.func118,rfl⟩
instance aa0:En Λ 119 Tryz.f119 6:=⟨λ_ _=>Θ,Tryz.func119,rfl⟩
instance aa1:En Λ 122 Tryz.f122 6:=⟨λ_ _=>Θ,Tryz.func122,rfl⟩
instance aa2:En Λ 123 Tryz.f123 19:=⟨λ_ _=>Θ,Tryz.func123,rfl⟩
instance aa3:En Λ 124 Tryz.f124 5:=⟨λ_ _=>Θ,Tryz.func124,rfl⟩
instance aa4:En Λ 125 Tryz.f125 4:=⟨λ_ _=>Θ,Tryz.func125,rfl⟩
def MD:Enters Λ 126:=λ_ _=>Θ
instance aa5:En Λ 127 Tryz.f127 9:=⟨λ_ _=>Θ,Tryz.func127,rfl⟩
instance aa6:En Λ 128 Tryz.f128 6:=⟨λ_ _=>Θ,Tryz.func128,rfl⟩
instance aa7:En Λ 129 Tryz.f129 24:=⟨λ_ _=>Θ,Tryz.func129,rfl⟩
instance aa8:En Λ 132 Tryz.f132 70:=⟨λ_ _=>Θ,Tryz.func132,rfl⟩
instance aa9:En Λ 133 Tryz.f133 8:=⟨λ_ _=>Θ,Tryz.func133,rfl⟩
instance aba:En Λ 134 Tryz.f134 186:=⟨λ_ _=>Θ,Tryz.func134,rfl⟩
instance abb:En Λ 136 Tryz.f136 32:=⟨λ_ _=>Θ,Tryz.func136,rfl⟩
instance abc:En Λ 137 Tryz.f137 114:=⟨λ_ _=>Θ,Tryz.func137,rfl⟩
instance abd:En Λ 138 Tryz.f138 64:=⟨λ_ _=>Θ,Tryz.func138,rfl⟩
instance abe:En Λ 139 Tryz.f139 81:=⟨λ_ _=>Θ,Tryz.func139,rfl⟩
instance abf:En Λ 140 Tryz.f140 27:=⟨λ_ _=>Θ,Tryz.func140,rfl⟩
instance abg:En Λ 141 Tryz.f141 98:=⟨λ_ _=>Θ,Tryz.func141,rfl⟩
instance abh:En Λ 142 Tryz.f142 61:=⟨λ_ _=>Θ,Tryz.func142,rfl⟩
instance abi:En Λ 143 Tryz.f143 93:=⟨λ_ _=>Θ,Tryz.func143,rfl⟩
instance abj:En Λ 145 Tryz.f145 22:=⟨λ_ _=>Θ,Tryz.func145,rfl⟩
instance abk:En Λ 146 Tryz.f146 55:=⟨λ_ _=>Θ,Tryz.func146,rfl⟩
instance abl:En Λ 147 Tryz.f147 28:=⟨λ_ _=>Θ,Tryz.func147,rfl⟩
instance abm:En Λ 148 Tryz.f148 15:=⟨λ_ _=>Θ,Tryz.func148,rfl⟩
instance abn:En Λ 151 Tryz.f151 26:=⟨λ_ _=>Θ,Tryz.func151,rfl⟩
instance abo:En Λ 154 Tryz.f154 40:=⟨λ_ _=>Θ,Tryz.func154,rfl⟩
instance abp:En Λ 155 Tryz.f155 21:=⟨λ_ _=>Θ,Tryz.func155,rfl⟩
instance abq:En Λ 156 Tryz.f156 21:=⟨λ_ _=>Θ,Tryz.func156,rfl⟩
instance abr:En Λ 157 Tryz.f157 25:=⟨λ_ _=>Θ,Tryz.func157,rfl⟩
instance abt:En Λ 158 Tryz.f158 24:=⟨λ_ _=>Θ,Tryz.func158,rfl⟩
instance abu:En Λ 159 Tryz.f159 8:=⟨λ_ _=>Θ,Tryz.func159,rfl⟩
instance abv:En Λ 160 Tryz.f160 29:=⟨λ_ _=>Θ,Tryz.func160,rfl⟩
instance abw:En Λ 162 Tryz.f162 29:=⟨λ_ _=>Θ,Tryz.func162,rfl⟩
instance abx:En Λ 164 Tryz.f164 29:=⟨λ_ _=>Θ,Tryz.func164,rfl⟩
instance aby:En Λ 166 Tryz.f166 8:=⟨λ_ _=>Θ,Tryz.func166,rfl⟩
instance abz:En Λ 167 Tryz.f167 9:=⟨λ_ _=>Θ,Tryz.func167,rfl⟩
instance abA:En Λ 168 Tryz.f168 8:=⟨λ_ _=>Θ,Tryz.func168,rfl⟩
instance abB:En Λ 169 Tryz.f169 19:=⟨λ_ _=>Θ,Tryz.func169,rfl⟩
instance YX:En Λ 171 Tryz.f171 131:=⟨λ_ _=>Θ,Tryz.func171,rfl⟩
instance abC:En Λ 172 Tryz.f172 39:=⟨λ_ _=>Θ,Tryz.func172,rfl⟩
instance abD:En Λ 182 Tryz.f182 25:=⟨λ_ _=>Θ,Tryz.func182,rfl⟩
instance abE:En Λ 183 Tryz.f183 13:=⟨λ_ _=>Θ,Tryz.func183,rfl⟩
instance YY:En Λ 184 Tryz.f184 14:=⟨λ_ _=>Θ,Tryz.func184,rfl⟩
instance abF:En Λ 186 Tryz.f186 19:=⟨λ_ _=>Θ,Tryz.func186,rfl⟩
instance abG:En Λ 187 Tryz.f187 33:=⟨λ_ _=>Θ,Tryz.func187,rfl⟩
instance abH:En Λ 188 Tryz.f188 9:=⟨λ_ _=>Θ,Tryz.func188,rfl⟩
instance abI:En Λ 189 Tryz.f189 22:=⟨λ_ _=>Θ,Tryz.func189,rfl⟩
instance abJ:En Λ 190 Tryz.f190 93:=⟨λ_ _=>Θ,Tryz.func190,rfl⟩
instance abK:En Λ 191 Tryz.f191 29:=⟨λ_ _=>Θ,Tryz.func191,rfl⟩
instance abL:En Λ 192 Tryz.f192 8:=⟨λ_ _=>Θ,Tryz.func192,rfl⟩
instance abM:En Λ 193 Tryz.f193 35:=⟨λ_ _=>Θ,Tryz.func193,rfl⟩
instance abN:En Λ 194 Tryz.f194 33:=⟨λ_ _=>Θ,Tryz.func194,rfl⟩
instance abO:En Λ 195 Tryz.f195 17:=⟨λ_ _=>Θ,Tryz.func195,rfl⟩
instance abP:En Λ 196 Tryz.f196 5:=⟨λ_ _=>Θ,Tryz.func196,rfl⟩
instance abQ:En Λ 197 Tryz.f197 7:=⟨λ_ _=>Θ,Tryz.func197,rfl⟩
instance abR:En Λ 198 Tryz.f198 6:=⟨λ_ _=>Θ,Tryz.func198,rfl⟩
instance abS:En Λ 199 Tryz.f199 13:=⟨λ_ _=>Θ,Tryz.func199,rfl⟩
instance abT:En Λ 200 Tryz.f200 7:=⟨λ_ _=>Θ,Tryz.func200,rfl⟩
instance abU:En Λ 201 Tryz.f201 18:=⟨λ_ _=>Θ,Tryz.func201,rfl⟩
instance abV:En Λ 202 Tryz.f202 8:=⟨λ_ _=>Θ,Tryz.func202,rfl⟩
instance abW:En Λ 203 Tryz.f203 19:=⟨λ_ _=>Θ,Tryz.func203,rfl⟩
instance abX:En Λ 204 Tryz.f204 73:=⟨λ_ _=>Θ,Tryz.func204,rfl⟩
instance abY:En Λ 205 Tryz.f205 18:=⟨λ_ _=>Θ,Tryz.func205,rfl⟩
instance abZ:En Λ 207 Tryz.f207 18:=⟨λ_ _=>Θ,Tryz.func207,rfl⟩
instance ab0:En Λ 209 Tryz.f209 18:=⟨λ_ _=>Θ,Tryz.func209,rfl⟩
instance ab1:En Λ 211 Tryz.f211 18:=⟨λ_ _=>Θ,Tryz.func211,rfl⟩
instance ab2:En Λ 212 Tryz.f212 6:=⟨λ_ _=>Θ,Tryz.func212,rfl⟩
instance ab3:En Λ 213 Tryz.f213 34:=⟨λ_ _=>Θ,Tryz.func213,rfl⟩
instance ab4:En Λ 217 Tryz.f217 27:=⟨λ_ _=>Θ,Tryz.func217,rfl⟩
instance ab5:En Λ 218 Tryz.f218 5:=⟨λ_ _=>Θ,Tryz.func218,rfl⟩
instance ab6:En Λ 219 Tryz.f219 27:=⟨λ_ _=>Θ,Tryz.func219,rfl⟩
instance ab7:En Λ 221 Tryz.f221 27:=⟨λ_ _=>Θ,Tryz.func221,rfl⟩
instance ab8:En Λ 223 Tryz.f223 27:=⟨λ_ _=>Θ,Tryz.func223,rfl⟩
instance ab9:En Λ 226 Tryz.f226 36:=⟨λ_ _=>Θ,Tryz.func226,rfl⟩
instance acd:En Λ 237 Tryz.f237 26:=⟨λ_ _=>Θ,Tryz.func237,rfl⟩
instance ace:En Λ 269 Tryz.f269 5:=⟨λ_ _=>Θ,Tryz.func269,rfl⟩
instance acf:En Λ 270 Tryz.f270 5:=⟨λ_ _=>Θ,Tryz.func270,rfl⟩
instance acg:En Λ 271 Tryz.f271 13:=⟨λ_ _=>Θ,Tryz.func271,rfl⟩
instance ach:En Λ 275 Tryz.f275 73:=⟨λ_ _=>Θ,Tryz.func275,rfl⟩
instance aci:En Λ 276 Tryz.f276 71:=⟨λ_ _=>Θ,Tryz.func276,rfl⟩
instance acj:En Λ 278 Tryz.f278 39:=⟨λ_ _=>Θ,Tryz.func278,rfl⟩
instance ack:En Λ 279 Tryz.f279 8:=⟨λ_ _=>Θ,Tryz.func279,rfl⟩
instance acm:En Λ 280 Tryz.f280 11:=⟨λ_ _=>Θ,Tryz.func280,rfl⟩
instance acn:En Λ 281 Tryz.f281 43:=⟨λ_ _=>Θ,Tryz.func281,rfl⟩
instance aco:En Λ 282 Tryz.f282 33:=⟨λ_ _=>Θ,Tryz.func282,rfl⟩
instance acp:En Λ 283 Tryz.f283 44:=⟨λ_ _=>Θ,Tryz.func283,rfl⟩
instance acq:En Λ 284 Tryz.f284 8:=⟨λ_ _=>Θ,Tryz.func284,rfl⟩
instance acr:En Λ 285 Tryz.f285 23:=⟨λ_ _=>Θ,Tryz.func285,rfl⟩
instance acs:En Λ 286 Tryz.f286 21:=⟨λ_ _=>Θ,Tryz.func286,rfl⟩
instance acu:En Λ 287 Tryz.f287 8:=⟨λ_ _=>Θ,Tryz.func287,rfl⟩
instance acv:En Λ 288 Tryz.f288 25:=⟨λ_ _=>Θ,Tryz.func288,rfl⟩
instance acw:En Λ 300 Tryz.f300 74:=⟨λ_ _=>Θ,Tryz.func300,rfl⟩
instance acy:En Λ 302 Tryz.f302 20:=⟨λ_ _=>Θ,Tryz.func302,rfl⟩
instance acz:En Λ 303 Tryz.f303 22:=⟨λ_ _=>Θ,Tryz.func303,rfl⟩
instance acA:En Λ 304 Tryz.f304 9:=⟨λ_ _=>Θ,Tryz.func304,rfl⟩
instance acB:En Λ 305 Tryz.f305 19:=⟨λ_ _=>Θ,Tryz.func305,rfl⟩
instance acC:En Λ 306 Tryz.f306 31:=⟨λ_ _=>Θ,Tryz.func306,rfl⟩
instance acD:En Λ 307 Tryz.f307 10:=⟨λ_ _=>Θ,Tryz.func307,rfl⟩
instance acE:En Λ 308 Tryz.f308 4:=⟨λ_ _=>Θ,Tryz.func308,rfl⟩
instance acF:En Λ 311 Tryz.f311 6:=⟨λ_ _=>Θ,Tryz.func311,rfl⟩
instance acG:En Λ 312 Tryz.f312 100:=⟨λ_ _=>Θ,Tryz.func312,rfl⟩
instance acH:En Λ 313 Tryz.f313 8:=⟨λ_ _=>Θ,Tryz.func313,rfl⟩
instance acI:En Λ 314 Tryz.f314 22:=⟨λ_ _=>Θ,Tryz.func314,rfl⟩
instance YZ:En Λ 315 Tryz.f315 34:=⟨λ_ _=>Θ,Tryz.func315,rfl⟩
instance acJ:En Λ 316 Tryz.f316 32:=⟨λ_ _=>Θ,Tryz.func316,rfl⟩
instance acK:En Λ 317 Tryz.f317 99:=⟨λ_ _=>Θ,Tryz.func317,rfl⟩
instance acL:En Λ 318 Tryz.f318 17:=⟨λ_ _=>Θ,Tryz.func318,rfl⟩
instance acM:En Λ 319 Tryz.f319 9:=⟨λ_ _=>Θ,Tryz.func319,rfl⟩
instance acN:En Λ 320 Tryz.f320 52:=⟨λ_ _=>Θ,Tryz.func320,rfl⟩
def MC:Enters Λ 321:=λ_ _=>Θ
instance Y0:En Λ 322 Tryz.f322 20:=⟨λ_ _=>Θ,Tryz.func322,rfl⟩
instance acO:En Λ 323 Tryz.f323 20:=⟨λ_ _=>Θ,Tryz.func323,rfl⟩
instance acP:En Λ 324 Tryz.f324 6:=⟨λ_ _=>Θ,Tryz.func324,rfl⟩
instance acQ:En Λ 325 Tryz.f325 20:=⟨λ_ _=>Θ,Tryz.func325,rfl⟩
instance acR:En Λ 327 Tryz.f327 9:=⟨λ_ _=>Θ,Tryz.func327,rfl⟩
instance acS:En Λ 328 Tryz.f328 51:=⟨λ_ _=>Θ,Tryz.func328,rfl⟩
instance acT:En Λ 329 Tryz.f329 135:=⟨λ_ _=>Θ,Tryz.func329,rfl⟩
instance acU:En Λ 331 Tryz.f331 6:=⟨λ_ _=>Θ,Tryz.func331,rfl⟩
instance Y1:En Λ 332 Tryz.f332 43:=⟨λ_ _=>Θ,Tryz.func332,rfl⟩
instance acV:En Λ 334 Tryz.f334 6:=⟨λ_ _=>Θ,Tryz.func334,rfl⟩
def mixed:Tryz.prog.follows .mixedOrders=true:=Θ
