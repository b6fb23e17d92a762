/- Lemmas. -/
import Derived.Test.YtlgpgjdggilkgaaGreatDoorErag
import Derived.Laws.Strings2
set_option linter.all false
namespace Go.V
section
def gI(P:Program)(N:Nat)(rs:List ResultVar)(post:Value->LH->Prop):E1:=Ends P N rs post
section inp
variable {P:Program}{N ξ:Nat}{env:Env}{L:LH}{Ν:E1}{post:Value->LH->Prop}{ops:Array Oper}{ic:List Oper}{Ξ:Nat}{ty:TypeId}{pos:String}{af:Array Edge}
def KX.j0{e:Exit}{rs:List ResultVar}(h:gI P N rs post e env L):gI P N rs post e env L:=h
def KX.RP{e:Exit}(he:e=.ret\/e=.normal)(h:post (.tuple #[]) L):gI P N [] post e env L:=⟨he,λ_ _ _ s=>⟨[],L,B6.nil,s,h⟩⟩
def KX.Ts{e:Exit}{t:Nat}{v:Value}(he:e=.ret\/e=.normal)(J:env.lookup t=some v)(h:post v L):gI P N [.tmp t] post e env L:=⟨he,λ_ _ _ s=>⟨[v],L,B6.tmp J B6.nil,s,h⟩⟩
def KX.Tt{e:Exit}{t u:Nat}{v w:Value}(he:e=.ret\/e=.normal)(J:env.lookup t=some v)(U:env.lookup u=some w)(h:post (.tuple #[v,w]) L):gI P N [.tmp t,.tmp u] post e env L:=⟨he,λ_ _ _ s=>⟨[v,w],L,B6.tmp J (B6.tmp U B6.nil),s,h⟩⟩
def KX.Tu{e:Exit}{t u x:Nat}{v w y:Value}(he:e=.ret\/e=.normal)(J:env.lookup t=some v)(U:env.lookup u=some w)(h3:env.lookup x=some y)(h:post (.tuple #[v,w,y]) L):gI P N [.tmp t,.tmp u,.tmp x] post e env L:=⟨he,λ_ _ _ s=>⟨[v,w,y],L,B6.tmp J (B6.tmp U (B6.tmp h3 B6.nil)),s,h⟩⟩
def KX.Tv{e:Exit}{x b bU n:Nat}{t:TypeId}{cs:LV}{D8:LH}[ht:Jb P t n][hp:KP L b bU cs D8](he:e=.ret\/e=.normal)(J:env.lookup x=some (al b))(hn:cs.length=n)(h:post (.agg cs.toArray) L):gI P N [.cell x t] post e env L :=
 ⟨he,λ_ _ _ s=>⟨[.agg cs.toArray],L,B6.cell J hn B6.nil,s,h⟩⟩
def KX.g9{e:Exit}{x b bU n u:Nat}{t:TypeId}{cs:LV}{w:Value}{D8:LH}[ht:Jb P t n][hp:KP L b bU cs D8](he:e=.ret\/e=.normal)(J:env.lookup x=some (al b))(hn:cs.length=n)(U:env.lookup u=some w)(h:post (.tuple #[.agg cs.toArray,w]) L):gI P N [.cell x t,.tmp u] post e env L :=
 ⟨he,λ_ _ _ s=>⟨[.agg cs.toArray,w],L,B6.cell J hn (B6.tmp U B6.nil),s,h⟩⟩
variable {f:FuncId}{fn:Func}{c:Code}{rs:List ResultVar}{D:Array Operand}{ats:Array TypeId}{vs:LV}
def R.j5(he:Enters P f)(hf:P.funcs[f]? = some fn)(hb:fn.body=some c)(hr:fn.results=rs.toArray)(hN:fn.ntmps=ξ)(hv:eG env D.toList=some vs)(r : vs.length<=ξ)(hd:Ξ<N)
  (h:Δ P ξ c (Kr vs 0) L (gI P ξ rs (λv Y=>R P N ops ic ((Ξ,v)::env) Y Ν))):R P N ops (⟨some Ξ,.call { callee:=.value (.func f),args:=D,argTypes:=ats },ty,pos,af,none⟩::ic) env L Ν :=
 R.ef (Ef.d8 (Λ.body (args:=vs) ξ he hf hb hr hN r h) hv) hd λ_ _ h=>h
def Ο.d8{done:List Nat}{kP:List Im}{r:List PE}{i:Nat}(he:Enters P f)(hf:P.funcs[f]? = some fn)(hb:fn.body=some c)(hr:fn.results=rs.toArray)(hN:fn.ntmps=ξ)(hv:eG env D.toList=some vs)(I : vs.length<=ξ)(hd:Ξ<N)
  (h:Δ P ξ c (Kr vs 0) L (gI P ξ rs (λv Y=>h2 P N ops done i kP r [] ((Ξ,v)::env) Y Ν))):Ο P N ops done (.ef i) kP (some Ξ) (.call { callee:=.value (.func f),args:=D,argTypes:=ats }) ty r env L Ν :=
 Ο.ef (Ef.d8 (Λ.body (args:=vs) ξ he hf hb hr hN I h) hv) hd λ_ _ h=>h
def Ef.c7{x:Operand}{first cap:LV}{post:Value->LH->Prop}(c:Λ P f (first++vs++cap).toArray L post)(K:χ env x=some (.func (.func f) first.toArray cap.toArray))(hv:eG env D.toList=some vs) :
  Ef P L env (.call { callee:=.value x,args:=D,argTypes:=ats }) ty post:=by
 have h:=Ef.l6 (R':=[]) (ats:=ats) (ty:=ty) c K hv (by rw[aJ];exact A.refl _);intro θ Α a w o next F8 ha s J U hn
 exact h θ Α a w o next F8 ha s J U (λv Y ab ⟨L₁,hp,he⟩ s'=>hn v L₁ ab hp (by rw[he,aJ] at s';exact s'))
def R.j0{x:Operand}{first cap:LV}(K:χ env x=some (.func (.func f) first.toArray cap.toArray))(he:Enters P f)(hf:P.funcs[f]? = some fn)(hb:fn.body=some c)(hr:fn.results=rs.toArray)(hN:fn.ntmps=ξ)(hv:eG env D.toList=some vs)(r : (first++vs++cap).length<=ξ)(hd:Ξ<N)
  (h:Δ P ξ c (Kr (first++vs++cap) 0) L (gI P ξ rs (λv Y=>R P N ops ic ((Ξ,v)::env) Y Ν))):R P N ops (⟨some Ξ,.call { callee:=.value x,args:=D,argTypes:=ats },ty,pos,af,none⟩::ic) env L Ν :=
 R.ef (Ef.c7 (Λ.body (args:=first++vs++cap) ξ he hf hb hr hN r h) K hv) hd λ_ _ h=>h
def Ο.d7{done:List Nat}{kP:List Im}{r:List PE}{i:Nat}{x:Operand}{first cap:LV}(K:χ env x=some (.func (.func f) first.toArray cap.toArray))(he:Enters P f)(hf:P.funcs[f]? = some fn)(hb:fn.body=some c)(hr:fn.results=rs.toArray)(hN:fn.ntmps=ξ)(hv:eG env D.toList=some vs)(I : (first++vs++cap).length<=ξ)(hd:Ξ<N)
  (h:Δ P ξ c (Kr (first++vs++cap) 0) L (gI P ξ rs (λv Y=>h2 P N ops done i kP r [] ((Ξ,v)::env) Y Ν))):Ο P N ops done (.ef i) kP (some Ξ) (.call { callee:=.value x,args:=D,argTypes:=ats }) ty r env L Ν :=
 Ο.ef (Ef.c7 (Λ.body (args:=first++vs++cap) ξ he hf hb hr hN I h) K hv) hd λ_ _ h=>h
def R.ci[e:En P f fn ξ](h:Δ P ξ c (Kr vs 0) L (gI P ξ rs (λv Y=>R P N ops ic ((Ξ,v)::env) Y Ν)))(hb:fn.body=some c:=by exact rfl)(hr:fn.results=rs.toArray:=by exact rfl)(hv:eG env D.toList=some vs:=by exact rfl)(OK : vs.length<=ξ:=by simp)(hd:Ξ<N:=by decide):R P N ops (⟨some Ξ,.call { callee:=.value (.func f),args:=D,argTypes:=ats },ty,pos,af,none⟩::ic) env L Ν:=R.j5 e.en e.hf hb hr e.hN hv OK hd h
def Ο.ci{done:List Nat}{kP:List Im}{r:List PE}{i:Nat}[e:En P f fn ξ](h:Δ P ξ c (Kr vs 0) L (gI P ξ rs (λv Y=>h2 P N ops done i kP r [] ((Ξ,v)::env) Y Ν)))(hb:fn.body=some c:=by exact rfl)(hr:fn.results=rs.toArray:=by exact rfl)(hv:eG env D.toList=some vs:=by exact rfl)(OK : vs.length<=ξ:=by simp)(hd:Ξ<N:=by decide):Ο P N ops done (.ef i) kP (some Ξ) (.call { callee:=.value (.func f),args:=D,argTypes:=ats }) ty r env L Ν:=Ο.d8 e.en e.hf hb hr e.hN hv OK hd h
def R.cf{x:Operand}{first cap:LV}(K:χ env x=some (.func (.func f) first.toArray cap.toArray))[e:En P f fn ξ](h:Δ P ξ c (Kr (first++vs++cap) 0) L (gI P ξ rs (λv Y=>R P N ops ic ((Ξ,v)::env) Y Ν)))(hb:fn.body=some c:=by exact rfl)(hr:fn.results=rs.toArray:=by exact rfl)(hv:eG env D.toList=some vs:=by exact rfl)(OK : (first++vs++cap).length<=ξ:=by simp)(hd:Ξ<N:=by decide):R P N ops (⟨some Ξ,.call { callee:=.value x,args:=D,argTypes:=ats },ty,pos,af,none⟩::ic) env L Ν:=R.j0 K e.en e.hf hb hr e.hN hv OK hd h
def Ο.cf{done:List Nat}{kP:List Im}{r:List PE}{i:Nat}{x:Operand}{first cap:LV}(K:χ env x=some (.func (.func f) first.toArray cap.toArray))[e:En P f fn ξ](h:Δ P ξ c (Kr (first++vs++cap) 0) L (gI P ξ rs (λv Y=>h2 P N ops done i kP r [] ((Ξ,v)::env) Y Ν)))(hb:fn.body=some c:=by exact rfl)(hr:fn.results=rs.toArray:=by exact rfl)(hv:eG env D.toList=some vs:=by exact rfl)(OK : (first++vs++cap).length<=ξ:=by simp)(hd:Ξ<N:=by decide):Ο P N ops done (.ef i) kP (some Ξ) (.call { callee:=.value x,args:=D,argTypes:=ats }) ty r env L Ν:=Ο.d7 K e.en e.hf hb hr e.hN hv OK hd h
def KX.Nc{φ ψ:Prop}(k:ψ)(h:Hid ψ->φ:=by intro k;(with_reducible apply KX.j0);first|refine KX.RP (.inl rfl) (Hid.out k)|refine KX.RP (.inr rfl) (Hid.out k)|refine KX.Ts (.inl rfl) rfl (Hid.out k)|refine KX.Tt (.inl rfl) rfl rfl (Hid.out k)|refine KX.Tu (.inl rfl) rfl rfl rfl (Hid.out k)|refine KX.Tv (.inl rfl) rfl aS (Hid.out k)|refine KX.g9 (.inl rfl) rfl aS rfl (Hid.out k)):φ:=h ⟨k⟩
def Ef.d7{x:Operand}{first cap:LV}{post:Value->LH->Prop}(K:χ env x=some (.func (.func f) first.toArray cap.toArray))(hv:eG env D.toList=some vs)(c:Λ P f (first++vs++cap).toArray L post) :
  Ef P L env (.call { callee:=.value x,args:=D,argTypes:=ats }) ty post:=Ef.c7 c K hv
end inp
end
section
class OL (P:Program) (bU:Nat) (n Τ sz:outParam Nat):Prop where
 under:P.underlying bU=some (.array n Τ)
 size:(P.info? Τ).map (·.size)=some sz
def OL.L5{P:Program}{bU n Τ sz:Nat}(h:OL P bU n Τ sz)(w:World):(sizeOf Τ).run P w=.ok sz w:=by
 have J:=h.size;cases hi:P.info? Τ with
 | none=>rw[hi] at J;cases J
 | some i=>rw[hi] at J;simp at J;simp[sizeOf,typeInfo,hi,J]
def Ha(a:Addr)(i j:Nat):(a.add i).add j=a.add (i+j):=by
 unfold Addr.add;by_cases hi:i=0
 .subst hi;simp
 .by_cases hj:j=0
  .subst hj;simp[hi]
  .have:i+j≠0:=B;simp[hi,hj,df]
section
variable {P:Program}{N:Nat}{env:Env}{L:LH}{ty:TypeId}{v:Value}
def O.p6{t:TypeId}{x i:Operand}(h:O P L env (.index t x i) ty v):O P L env (.index t x i) ty v:=h
def O.l6{t:TypeId}{x i:Operand}{b o n Τ sz:Nat}{j:Int}{k:IntKind}[ht:OL P t n Τ sz](K:χ env x=some (.pointer (some ⟨b,o,none⟩)))(hi:χ env i=some (.int k j))(h0:0<=j)(J:j<n) :
  O P L env (.indexAddr t x i) ty (.pointer (some ⟨b,o+j.toNat*sz,none⟩)) :=
 O.mk (λθ Α _ w ea s _ _ _ _=>by
  simp[execOp,aH ea K,aH ea hi,Instr.indexAt,asIntOf,run_underlying ht.under,h0,J,ht.L5,gG,Instr.sureAddr])
def O.m5{t:TypeId}{x i:Operand}{M:OA}{s' m o n Τ sz:Nat}{j:Int}{k:IntKind}{α:Type}{Β:α->LV}{D:List α}[ht:OL P t n Τ sz][hr:C7 L M α Β s' D](K:χ env x=some (.pointer (Ks M s' m o)))(hi:χ env i=some (.int k j))(hm:m<D.length)(h0:0<=j)(J:j<n) :
  O P L env (.indexAddr t x i) ty (.pointer (Ks M s' m (o+j.toNat*sz))) :=
 O.mk (λθ Α _ w ea s _ _ _ _=>by
  obtain⟨_,U⟩:=hr.rd θ Α w s;rcases U with U|⟨a,rfl,_⟩
  .subst U;simp at hm
  .simp[execOp,aH ea K,aH ea hi,Instr.indexAt,asIntOf,run_underlying ht.under,h0,J,ht.L5,Ks,Instr.sureAddr,Ha,df])
def Bz{s:ByteArray}{i:Nat}(h:i<s.size):s[i]? = some (s.data[i]'(by simpa using h)):=by
 simp[h];rfl
def O.n9{t:TypeId}{x i:Operand}{s:ByteArray}{j:Int}{k:IntKind}[ht:Pc P t](K:χ env x=some (.string s))(hi:χ env i=some (.int k j))(h0:0<=j)(J:j<s.size) :
  O P L env (.index t x i) ty (.int .u8 ((fx s)[j.toNat]!)) :=
 O.mk (λθ Α _ w ea st _ _ _ _=>by
  have r:j.toNat<s.size:=B
  have hn:(fx s)[j.toNat]! = ((s.data[j.toNat]'(by simpa using r)).toNat:Int):=by
   rw[List.getElem!_eq_getElem?_getD,List.getElem?_eq_getElem (by rw[rr];exact r)];simp[fx]
  rw[hn];simp[execOp,aH ea K,aH ea hi,Instr.index,asIntOf,run_underlying ht.under,h0,Bz r])
def CX(s:ByteArray):∀x∈fx s,0<=x/\x<=255:=by
 intro x K;simp only[fx,List.mem_map] at K;obtain⟨y,_,rfl⟩:=K;have:=y.toNat_lt
 omega
def O.o8{t:TypeId}{x lo hi:Operand}{s:ByteArray}{k k' : IntKind}{i j:Int}[ht:Pc P t](K:χ env x=some (.string s))(hl:χ env lo=some (.int k i))(hh:χ env hi=some (.int k' j))(h0:0<=i)(J:i<=j)(U:j<=s.size) :
  O P L env (.slice t x (some lo) (some hi) none) ty (.string (s.extract i.toNat j.toNat)) :=
 O.mk (λθ Α _ w ea st _ _ _ _=>by
  have h3:0<=j:=B;simp[execOp,aH ea K,aH ea hl,aH ea hh,Instr.sliceAt,Instr.slice,Instr.sliceBounds,Instr.sliceBound,asIntOf,run_underlying ht.under,h0,U,h3];intro h;exact iW h B)
def yQ(s:ByteArray):s.extract 0 s.size=s:=by
 apply ByteArray.ext;simp
end
end
section
def Nv:Nat->LV->LV->(LV->Option (LV))->Option (LV)
 | 0,[],z,k=>k z
 | 0,c::cs,_::z,k=>Nv 0 cs z λΘ=>k (c::Θ)
 | o+1,cs,x::z,k=>Nv o cs z λΘ=>k (x::Θ)
 | _,_,[],_=>none
def pz:∀(o:Nat) (cs z:LV) (k:LV->Option (LV)) (Θ:LV),Nv o cs z k=some Θ->o+cs.length<=z.length/\k (z.take o++cs++z.drop (o+cs.length))=some Θ
 | 0,[],z,k,Θ,h=>by simpa [Nv] using h
 | 0,c::cs,[],k,Θ,h=>by simp[Nv] at h
 | 0,c::cs,_::z,k,Θ,h=>by
  simp only[Nv] at h;have:=pz 0 cs z _ Θ h
  simp at this ⊢;exact this
 | o+1,cs,[],k,Θ,h=>by simp[Nv] at h
 | o+1,cs,x::z,k,Θ,h=>by
  simp only[Nv] at h;have:=pz o cs z _ Θ h
  rw[show o+1+cs.length=o+cs.length+1 by omega];simp at this ⊢;exact⟨B,this.2⟩
def Nd:Nat->Nat->LV->(LV->Option (LV))->Option (LV)
 | 0,0,_,k=>k []
 | 0,n+1,x::z,k=>Nd 0 n z λΘ=>k (x::Θ)
 | o+1,n,_::z,k=>Nd o n z k
 | _,_,[],_=>none
def pw:∀(o n:Nat) (z:LV) (k:LV->Option (LV)) (Θ:LV),Nd o n z k=some Θ->o+n<=z.length/\k ((z.drop o).take n)=some Θ
 | 0,0,z,k,Θ,h=>by cases z<;>simpa [Nd] using h
 | 0,n+1,[],k,Θ,h=>by simp[Nd] at h
 | 0,n+1,x::z,k,Θ,h=>by
  simp only[Nd] at h;have:=pw 0 n z _ Θ h
  simp at this ⊢;exact this
 | o+1,n,[],k,Θ,h=>by cases n<;>simp[Nd] at h
 | o+1,n,x::z,k,Θ,h=>by
  have h' : Nd o n z k=some Θ:=by cases n<;>simpa only[Nd] using h
  have:=pw o n z _ Θ h'
  rw[show o+1+n=o+n+1 by omega];simp at this ⊢;exact this
def kH:Value->LV
 | .agg cs=>cs.toList
 | v=>[v]
def tZ:Value->Bool
 | .tuple _=>true
 | _=>false
def Cu(v:Value)(ht:tZ v=false):v.cells=(kH v).toArray:=by
 cases v<;>simp[Value.cells,kH,tZ] at ht ⊢
def pk(pl:List (Nat×Nat)):List (Nat×Value)->LV->Option (LV)
 | [],z=>some z
 | (i,v)::Θ,z=>match pl[i]? with
  | none=>none
  | some (off,sz)=>if tZ v=false/\(kH v).length=sz then Nv off (kH v) z λz'=>pk pl Θ z' else none
def Fm(off:Nat)(cs z:LV)(h:off+cs.length<=z.length):(cs.toArray.zipIdx.foldl (λ (a:Array Value) (p:Value×Nat)=>a.setIfInBounds (off+p.2) p.1) z.toArray)=(z.take off++cs++z.drop (off+cs.length)).toArray:=by
 have r:∀(cs:LV) (k:Nat) (z:LV),off+k+cs.length<=z.length->(cs.zipIdx k).foldl (λ (a:Array Value) (p:Value×Nat)=>a.setIfInBounds (off+p.2) p.1) z.toArray=(z.take (off+k)++cs++z.drop (off+k+cs.length)).toArray:=by
  intro cs;induction cs with
  | nil=>intro k z _;simp
  | cons c cs ih =>
   intro k z hz;simp only[aO] at hz;simp only[List.zipIdx_cons,List.foldl_cons,List.setIfInBounds_toArray];rw[ih (k+1) (z.set (off+k) c) gg];congr 1;rw[show off+(k+1)=off+k+1 by omega,av gg,List.getElem_set_self,List.take_set_of_le B,List.drop_set_of_lt B];simp only[ax,aj,ak,aO];rw[show off+k+1+cs.length=off+k+(cs.length+1) by omega]
 have:=r cs 0 z B
 simpa using this
def qe(pl:List (Nat×Nat)):∀(vs:List (Nat×Value)) (z cs:LV),pk pl vs z=some cs->Instr.fill (λi=>pl.toArray[i]?) z.toArray vs=some cs.toArray
 | [],z,cs,h=>by simp[pk] at h;simp[Instr.fill,h]
 | (i,v)::Θ,z,cs,h=>by
  simp only[pk] at h;cases J:pl[i]? with
  | none=>rw[J] at h;cases h
  | some p =>
   obtain⟨off,sz⟩:=p;rw[J] at h;simp only at h;by_cases hc:tZ v=false/\(kH v).length=sz
   .rw[μ hc] at h;obtain⟨h3,h4⟩:=pz _ _ _ _ _ h;have ih:=qe pl Θ _ _ h4;have I:=hc.2;simp only[Instr.fill,List.getElem?_toArray,J,Cu v hc.1,fW];have r:¬(decide ((kH v).length≠sz) || decide (off+(kH v).length>z.length))=true:=by simp[I];omega
    rw[Ω r,Fm off (kH v) z h3];simp only[List.getElem?_toArray] at ih;exact ih
   .rw[Ω hc] at h;cases h
def qd{α:Type}{Β:α->LV}{sz:Nat}(e:α):∀{D:List α} {j:Nat},(∀x∈D,(Β x).length=sz)->j<D.length->(D.set j e).flatMap Β=(D.flatMap Β).take (j*sz)++Β e++(D.flatMap Β).drop (j*sz+sz)
 | [],j,_,h=>by simp at h
 | x::D,0,hs,_=>by
  have K:=hs x (az ..);simp only[fh,aR,Nat.zero_mul,aU,ak,cW];rw[<-K,List.drop_left]
 | x::D,j+1,hs,h=>by
  have K:=hs x (az ..);have ih:=qd e (D:=D) (j:=j) (λy Z=>hs y (aB _ Z)) (by simpa using h);simp only[List.set_cons_succ,aR,ih];rw[show(j+1)*sz=(Β x).length+j*sz by rw[K,gA];omega,List.take_length_add_append,df,List.drop_length_add_append];simp only[ax]
section
variable {P:Program}{N:Nat}{env:Env}{L:LH}{ty:TypeId}{v:Value}
def O.u7{t:TypeId}{ps:Array (Nat×Operand)}{vs:List (Nat×Value)}{pl:List (Nat×Nat)}{z cs:LV}[hs:Kf P t pl][hz:I5 P t z](hv:jF env ps.toList=some vs)(hc:pk pl vs z=some cs):O P L env (.build t ps) ty (.agg cs.toArray) :=
 O.mk (λθ Α ρ w ea s _ _ _ _=>by
  obtain⟨z0,J,U⟩:=hz.run w;have he:=hs.eq;cases hu:P.underlying t with
  | none=>rw[hu] at he;cases he
  | some QN =>
   rw[hu] at he;cases QN<;>simp[qo] at he;rename_i fs;have hm:=mG (P:=P) (w:=w) fs.toList pl (by simpa using he)
   have r:ps.map (λp=>(p.1,ρ p.2))=vs.toArray:=by
    apply Array.ext';simpa using ea.pairs ps.toList vs hv
   have I : (fs.mapM λ (f:Field)=>do pure (f.offset,<-sizeOf f.type)).run P w=.ok pl.toArray w:=by
    have e:fs=fs.toList.toArray:=by simp
    rw[e,List.mapM_toArray];simp only[Sem.run_map,hm,Result.andThen_ok]
   have hf:=qe pl vs z cs hc;simp only[execOp,r,Instr.build,Sem.run_bind,J,Result.andThen_ok,run_underlying hu,I,U];simp only[hf];simp)
def O.c9{t:TypeId}{x:Operand}{b o bU n:Nat}{cs vs:LV}{D8:LH}[ht:Jb P t n][hp:KP L b bU cs D8](K:χ env x=some (.pointer (some ⟨b,o,none⟩)))(hs:Nd o n cs some=some vs):O P L env (.load t x) ty (.agg vs.toArray) :=
 O.mk (λθ Α _ w ea s _ _ _ _=>by
  obtain⟨J,U⟩:=pw _ _ _ _ _ hs;simp only[Option.some.injEq] at U;subst U;have hb:=s.OB hp.perm
  have hl:=run_loadCells_list (P:=P) w ⟨b,o,none⟩ ((cs.drop o).take n) (λj v hv=>by
   have hj:j<n:=by have:=(List.getElem?_eq_some_iff.1 hv).1;simp at this;omega
   rw[gG,dI hb];simp[hj] at hv ⊢;exact hv)
  have r:((cs.drop o).take n).length=n:=by simp;omega
  rw[r] at hl;simp[execOp,aH ea K,Instr.loadAt,Instr.sureAddr,loadVar,ht.run,Jb.L5,hl])
def Ef.f8{t:TypeId}{x y:Operand}{b o bU n:Nat}{cs vs r : LV}{D8:LH}[ht:Jb P t n][hp:KP L b bU cs D8](K:χ env x=some (.pointer (some ⟨b,o,none⟩)))(Z:χ env y=some (.agg vs.toArray))(hn:vs.length=n)(hs:Nv o vs cs some=some r)(J:∀v∈vs,v.oneCell' = true)
  : Ef P L env (.store t x y) ty (λ_ Y=>Y = obj b bU r::D8) :=
 Ef.skip (λθ Α a w ea s a2 pos af g=>by
  obtain⟨U,h3⟩:=pz _ _ _ _ _ hs;simp only[Option.some.injEq] at h3;subst h3;have s1:=s.perm (hp.perm.append_right Α);have hb:w.heap[b]? = some (.cells cs.toArray bU (0,0)):=s1.IN;have I:=run_storeCells_at P b o bU vs 0 cs.toArray w hb gg J;refine⟨w.setRow b (cs.take o++vs++cs.drop (o+vs.length)).toArray,_,?_,rfl,?_⟩
  .simp[execOp,aH ea K,aH ea Z,Instr.storeAt,Instr.sureAddr,storeVar,Jb.L5,Value.cells,hn] at I ⊢;rw[I];simp
  .exact Sat.update s1 ⟨s.1.tape,s.1.os,s.1.output,s.1.drawn⟩ (setRow_heap w b _ _ bU _ hb) (λj x hj K=>by rw[setRow_other w b j _ hj];exact K))
def O.m8{t:TypeId}{x:Operand}{b m sz j o:Nat}{α:Type}[Inhabited α]{Β:α->LV}{D:List α}[ht:Iv P t][hr:C7 L (some ⟨b,0,none⟩) α Β sz D]
  (K:χ env x=some (.pointer (some ⟨b,m,none⟩))) (hm:m=j*sz+o) (hj:j<D.length) (ho:o<sz) (hv:(Β D[j]!)[o]? = some v):O P L env (.load t x) ty v:=by
 refine O.f8 (M:=some ⟨b,0,none⟩) (sz:=sz) (j:=j) (o:=o) ?_ hj ho hv;rw[K,hm];simp only[Ks,dM,fi]
def Ef.g9{t:TypeId}{x y:Operand}{M:OA}{sz j Τ cap:Nat}{α:Type}[Inhabited α]{Β:α->LV}{D:List α}{D8:LH}{vs:LV}(e:α)[ht:Jb P t sz][hp:MO L M α Β sz Τ cap D D8]
  (K:χ env x=some (.pointer (Ks M sz j 0))) (Z:χ env y=some (.agg vs.toArray)) (he:Β e=vs) (hn:vs.length=sz) (J:∀v∈vs,v.oneCell' = true) (hj:j<D.length) :
  Ef P L env (.store t x y) ty (λ_ Y=>Y = Υ Β sz Τ M cap (D.set j e)::D8) :=
 Ef.skip (λθ Α ρ w ea s b0 pos af g=>by
  have s1:=s.perm (hp.perm.append_right Α);obtain⟨p1,p2,p3,p4⟩:=Sat.Lw s1;rcases p4 with⟨rfl,rfl⟩|⟨gb,r,rfl,f1,f2,f3⟩
  .omega
  .have hb:w.heap[gb]? = some (.cells r Τ (0,0)):=f3.IN;have I:(j+1)*sz<=D.length*sz:=bK _ hj;rw[gA] at I;have a4:=bK sz p2;have a2:=run_storeCells_at P gb (j*sz) Τ vs 0 r w hb B J
   have a5:∀y∈D.set j e,(Β y).length=sz:=by
    intro y a9;rcases List.mem_or_eq_of_mem_set a9 with h|h
    .exact p1 y h
    .subst h;rw[he];exact hn
   have a7 : χ env x=some (.pointer (some ⟨gb,j*sz,none⟩)):=by rw[K];simp only[Ks,dM,fi,dW]
   refine⟨w.setRow gb (r.toList.take (j*sz)++vs++r.toList.drop (j*sz+sz)).toArray,_,?_,rfl,?_⟩
   .simp[execOp,aH ea a7,aH ea Z,Instr.storeAt,Instr.sureAddr,storeVar,Jb.L5,Value.cells,hn] at a2 ⊢;rw[a2];simp
   .have s3:Sat θ (h1 gb (.cells (r.toList.take (j*sz)++vs++r.toList.drop (j*sz+sz)).toArray Τ (0,0))::(D8++Α)) (w.setRow gb (r.toList.take (j*sz)++vs++r.toList.drop (j*sz+sz)).toArray) :=
     Sat.update f3 ⟨s.1.tape,s.1.os,s.1.output,s.1.drawn⟩ (setRow_heap w gb _ _ Τ _ hb) (λk x hk K=>by rw[setRow_other w gb k _ hk];exact K)
    refine Sat.Mu (L:=D8++Α) s3 a5 (by simpa using p2) p3 ?_ ?_
    .simp[hn];omega
    .have a6:(r.toList.take (j*sz)).length=j*sz:=by simp;omega
     rw[qd e p1 hj,<-f2,he,bq,List.take_take,cX B,List.drop_take];simp only;have a3:(r.toList.take (j*sz)++vs).length=j*sz+sz:=by rw[aq,a6,hn]
     rw[List.take_append,a3,aG (l:=r.toList.take (j*sz)++vs) B])
def sC{α:Type}{Β:α->LV}{z:Array Value}{e:α}(he:Β e=z.toList)(hz:0<z.size)(n:Nat):((List.replicate n e).flatMap Β).toArray=madeCells z (n*z.size):=by
 apply Array.ext
 .simp[madeCells,cF (Β:=Β) (sz:=z.size) (D:=List.replicate n e) (λx K=>by rw[eV K,he];simp)]
 .intro i J U;simp only[madeCells,Array.getElem_map,Array.getElem_range]
  have r:((List.replicate n e).flatMap Β).length=n*z.size:=by
   have:=cF (Β:=Β) (sz:=z.size) (D:=List.replicate n e) (λx K=>by rw[eV K,he];simp)
   simpa using this
  have hi:i<n*z.size:=by simpa [r] using J
  have hq:i / z.size<n:=(ez hz).2 hi;have hr:=dA i hz;have hd:=eW i z.size;haveI:Inhabited α:=⟨e⟩
  have:=lN (Β:=Β) (sz:=z.size) (D:=List.replicate n e) (λx K=>by rw[eV K,he];simp) (j:=i / z.size) (o:=i % z.size) (by simpa using hq) hr
  rw[show i / z.size*z.size+i % z.size=i by rw[Nat.mul_comm];exact hd] at this;rw[List.getElem!_eq_getElem?_getD,List.getElem?_replicate,μ hq] at this;simp only[Option.getD_some,he] at this;rw[List.getElem?_eq_getElem B] at this;simp only[Array.getElem?_toList,Array.getElem?_eq_getElem hr,Option.some.injEq] at this;simp only[List.getElem_toArray,this];rw[getElem!_pos z (i % z.size) hr]
def Ef.g8{t:TypeId}{x y:Operand}{Τ sz bb:Nat}{z:LV}{α:Type}(Β:α->LV)(e:α){n c:Int}[ht:IJ P t Τ sz bb z](K:χ env x=some (E n))(Z:χ env y=some (E c))(he:Β e=z)(h0:0<=n)(hc:n<=c)(J:c*bb<=16777216)(U:c<=1000000000) :
  Ef P L env (.makeSlice t x y) ty (λv Y=>∃b,v=.slice (some ⟨b,0,none⟩) n.toNat c.toNat/\Y = Υ Β sz Τ (some ⟨b,0,none⟩) c.toNat (List.replicate n.toNat e)::L) :=
 Ef.val (λθ Α a w ea s a3 pos af g=>by
  obtain⟨ii,zz,i1,i2,i3,i4,i5⟩:=ht.Ζ;have a2:zz.cells.size=sz:=by rw[<-dF,i3];exact ht.N5
  have I:=ht.pos;have hk:=run_make (P:=P) w t Τ ii zz ht.under i1 i2 .i64 .i64 n c h0 hc (by rw[i5,Int.mul_comm];omega) B;rw[i4,<-a2,<-sC (Β:=Β) (e:=e) (by rw[he,i3]) B] at hk;refine⟨.slice (some ⟨w.heap.size,0,none⟩) n.toNat c.toNat,w.alloc (.cells ((List.replicate c.toNat e).flatMap Β).toArray Τ),_,by simp[execOp,aH ea K,aH ea Z,hk],⟨_,rfl,rfl⟩,?_⟩;have s1:=s.alloc (o:=.cells ((List.replicate c.toNat e).flatMap Β).toArray Τ);have r:∀(k:Nat),∀x∈List.replicate k e,(Β x).length=sz:=λk x K=>by rw[eV K,he];exact ht.N5
  refine Sat.Mu (Β:=Β) (sz:=sz) (cap:=c.toNat) (D:=List.replicate n.toNat e) (L:=L++Α) s1 (r _) gg (by simp only[maxLen];omega) ?_ ?_
  .simp only[fW];rw[cF (r _),List.length_replicate]
  .have e1:List.replicate c.toNat e=List.replicate n.toNat e++List.replicate (c.toNat - n.toNat) e:=by
    rw[List.replicate_append_replicate];congr 1;omega
   rw[e1,cZ];simp only;rw[List.take_append_of_le_length (by rw[cF (r _)];exact au _),aG (by rw[cF (r _)];exact au _)])
