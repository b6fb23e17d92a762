/- Lemmas. -/
import Derived.Test.YtlgpgjdggilkgaaGreatDoorErad
import Derived.Laws.BytesArg
import Derived.Laws.Strings
import Derived.Laws.MakeOwn
import Derived.ProofKit
import Derived.Carry
import Derived.ChangeSlices
import Derived.ChangeSame
import Derived.OpenShut
import Derived.Laws.Externs
import Derived.MapKept
set_option linter.all false
namespace Go.V
section
class RJ (P:Program) (bU:Nat):Prop where
 under:P.underlying bU=some .bool
section
variable {P:Program}{env:Env}{L:LH}{ty:TypeId}
def nY{t:TypeId}{a b:Bool}{w:World}{n:Nat}(he:P.underlying t=some .bool):(Op.equalIn (n+1) t (.bool a) (.bool b)).run P w=.ok (a == b) w:=by
 simp[Op.equalIn,run_underlying he]
def O.y8{t yt:TypeId}{x y:Operand}{φ ψ:Prop}[Decidable φ][Decidable ψ][ht:RJ P t](K:χ env x=some (.bool (dB φ)))(Z:χ env y=some (.bool (dB ψ))):O P L env (.binOp .neq t x y yt) ty (.bool (dB (¬(φ↔ψ)))) :=
 O.mk (λ_ _ _ w ea _ _ _ _ _=>by
  have J:=iP (P:=P) (w:=w) (λn=>nY (n:=n) (a:=dB φ) (b:=dB ψ) ht.under)
  have U:(!(dB φ == dB ψ))=dB (¬(φ↔ψ)):=by
   rw[dd,dd,dd];by_cases h:φ<;>by_cases h' : ψ<;>simp[h,h']
  simp[execOp,aH ea K,aH ea Z,eqGuard,binOp,J,U])
def O.y9{t yt:TypeId}{x y:Operand}{φ ψ:Prop}[Decidable φ][Decidable ψ][ht:RJ P t](K:χ env x=some (.bool (dB φ)))(Z:χ env y=some (.bool (dB ψ))):O P L env (.binOp .eql t x y yt) ty (.bool (dB (φ↔ψ))) :=
 O.mk (λ_ _ _ w ea _ _ _ _ _=>by
  have J:=iP (P:=P) (w:=w) (λn=>nY (n:=n) (a:=dB φ) (b:=dB ψ) ht.under)
  have U:(dB φ == dB ψ)=dB (φ↔ψ):=by
   rw[dd,dd,dd];by_cases h:φ<;>by_cases h' : ψ<;>simp[h,h']
  simp[execOp,aH ea K,aH ea Z,eqGuard,binOp,J,U])
def wW(a b:ByteArray):(a.toList == b.toList)=decide (a=b):=by
 rw[ByteArray.toList_eq,ByteArray.toList_eq];cases a with|mk a=>cases b with|mk b =>
 by_cases h:a=b
 .subst h;simp
 .simp[h]
def O.u4{t yt:TypeId}{x y:Operand}{a b:ByteArray}(K:χ env x=some (.string a))(Z:χ env y=some (.string b)):O P L env (.binOp .eql t x y yt) ty (.bool (dB (a=b))) :=
 O.mk (λ_ _ _ w ea _ _ _ _ _=>by
  simp[execOp,aH ea K,aH ea Z,eqGuard,binOp,Op.stringOp,dd,wW])
def O.t7{t yt:TypeId}{x y:Operand}{a b:ByteArray}(K:χ env x=some (.string a))(Z:χ env y=some (.string b)):O P L env (.binOp .neq t x y yt) ty (.bool (dB (¬a=b))) :=
 O.mk (λ_ _ _ w ea _ _ _ _ _=>by
  simp[execOp,aH ea K,aH ea Z,eqGuard,binOp,Op.stringOp,dd,wW])
def my(D:List Int)(k:IntKind):D.flatMap (a0 k)=D.map (Value.int k):=mJ _ D
def O.k8{s t:TypeId}{x:Operand}{M:OA}{n c Τ sz bb:Nat}{z:LV}{D:List Int}[hs:IJ P s Τ sz bb z][he:LP P Τ .u8][ht:Pc P t][hr:C7 L M Int (a0 .u8) 1 D](K:χ env x=some (.slice M n c))(hn:n=D.length) :
  O P L env (.convert s t x) ty (.string (strOfNums D)) :=
 O.mk (λθ Α _ w ea st _ _ _ _=>by
  subst hn;obtain⟨J,U⟩:=hr.rd θ Α w st
  have hc:(convert s t (.slice M D.length c)).run P w=.ok (.string (strOfNums D)) w:=by
   rw[run_convert_bytes_string w s t Τ M D.length c hs.under he.under ht.under];rcases U with rfl|⟨a,rfl,h3⟩
   .cases M with
    | none=>simp[Conv.bytesToString,strOfNums];rfl
    | some a =>
     have hl:(loadCells a 0).run P w=.ok (([]:List Int).map (Value.int .u8)).toArray w:=by simp[loadCells,loadCellsFrom]
     exact(run_bytesToString w a 0 c [] hl).trans (by simp[strOfNums];rfl)
   .rw[my] at h3;have hl:=run_loadCells_list (P:=P) w a (D.map (Value.int .u8)) h3;rw[List.length_map] at hl;rw[run_bytesToString w a D.length c D hl,foldl_push_bytes];simp[strOfNums,ByteArray.empty,ByteArray.emptyWithCapacity];rfl
  simp[execOp,aH ea K,hc])
def lX{α:Type}[Inhabited α](f:Nat->α)(x:α)(n:Nat)(h:∀i,i<n->f i=x):(Array.range n).map f=(List.replicate n x).toArray:=by
 apply Array.ext
 .simp
 .intro i J U;simp at J ⊢;exact h i J
def Ef.makeSlice{t:TypeId}{x y:Operand}{Τ bb:Nat}{z0:Value}{α:Type}(Β:α->LV)(e:α){n:Int}[ht:IJ P t Τ 1 bb [z0]](K:χ env x=some (.int .i64 n))(Z:χ env y=some (.int .i64 n))(he:Β e=[z0])(h0:0<=n)(J:n*bb<=16777216)(U:n<=1000000000) :
  Ef P L env (.makeSlice t x y) ty (λv Y=>∃b,v=.slice (some ⟨b,0,none⟩) n.toNat n.toNat/\Y = Υ Β 1 Τ (some ⟨b,0,none⟩) n.toNat (List.replicate n.toNat e)::L) :=
 Ef.val (λθ Α a w ea s r pos af g=>⟨.slice (some ⟨w.heap.size,0,none⟩) n.toNat n.toNat,w.alloc (.cells (List.replicate n.toNat z0).toArray Τ),_,by
  obtain⟨ii,zz,i1,i2,i3,i4,i5⟩:=ht.Ζ
  have hz:zz.cells=#[z0]:=by
   have:=i3
   apply Array.ext';simpa using this
  have hm:madeCells zz.cells (n.toNat*ii.size)=(List.replicate n.toNat z0).toArray:=by
   rw[hz,i4,Nat.mul_one];exact lX _ _ _ (λi _=>by simp[Nat.mod_one])
  have hk:=run_make (P:=P) w t Τ ii zz ht.under i1 i2 .i64 .i64 n n h0 (Int.le_refl _) (by rw[i5,Int.mul_comm];omega) (by omega);rw[hm] at hk
  simp[execOp,aH ea K,aH ea Z,hk],⟨_,rfl,rfl⟩,by
   have s1:=s.alloc (o:=.cells (List.replicate n.toNat z0).toArray Τ);refine Sat.Mu (Β:=Β) (sz:=1) (cap:=n.toNat) (D:=List.replicate n.toNat e) (L:=L++Α) s1 ?_ (by simp) (by simp only[maxLen];omega) (by simp) ?_
   .intro x K;rw[List.eq_of_mem_replicate K,he];rfl
   .have:∀k,(List.replicate k e).flatMap Β=List.replicate k z0:=by
     intro k;induction k with
     | zero=>rfl
     | succ k ih=>rw[List.replicate_succ,List.flatMap_cons,ih,he];rfl
    rw[this];simp⟩)
def Ef.υ{op:Op}{Y : LH}{post:Value->LH->Prop}(h:A L Y)(k:Ef P Y env op ty post):Ef P L env op ty post:=λθ Α a w o next F8 ha s J U hn=>k θ Α a w o next F8 ha (h θ Α w s) J U hn
def Ef.k6{f:FuncId}{D:Array Operand}{ats:Array TypeId}{vs:LV}{post:Value->LH->Prop}{Μ:HP}{Α:LH}[h:OF L Μ Α]
  (c:Λ P f vs.toArray (Μ::Α) post) (hv:eG env D.toList=some vs):Ef P L env (.call { callee:=.value (.func f),args:=D,argTypes:=ats }) ty post:=Ef.υ (A.perm h.perm) (Ef.d8 c hv)
def wy{α:Type}[Inhabited α]{Β:α->LV}{sz o:Nat}{e:α}{v:Value}:∀{D:List α} {j:Nat},(∀x∈D,(Β x).length=sz)->j<D.length->o<sz->Β e=(Β D[j]!).set o v->(D.set j e).flatMap Β=(D.flatMap Β).set (j*sz+o) v
 | [],j,_,hj,_,_=>by simp at hj
 | x::D,0,h,_,ho,he=>by
  have K:=h x (by simp);simp only[List.set_cons_zero,List.flatMap_cons,Nat.zero_mul,Nat.zero_add];rw[List.set_append,μ (by omega),he];simp
 | x::D,j+1,h,hj,ho,he=>by
  have K:=h x (by simp);simp only[List.set_cons_succ,List.flatMap_cons];have e1:¬((j+1)*sz+o<(Β x).length):=by rw[K,Nat.succ_mul];omega
  rw[List.set_append,Ω e1];have e2:(j+1)*sz+o - (Β x).length=j*sz+o:=by rw[K,Nat.succ_mul];omega
  rw[e2,wy (λy Z=>h y (by simp[Z])) (by simpa using hj) ho (by simpa using he)]
def Ef.d9{t:TypeId}{x y:Operand}{M:OA}{sz j o Τ cap:Nat}{α:Type}[Inhabited α]{Β:α->LV}{D:List α}{D8:LH}{v:Value}(e:α)[ht:Iv P t][hp:MO L M α Β sz Τ cap D D8]
  (K:χ env x=some (.pointer (Ks M sz j o))) (Z:χ env y=some v) (he:Β e=(Β D[j]!).set o v) (J:v.oneCell' = true) (hj:j<D.length) (ho:o<sz) :
  Ef P L env (.store t x y) ty (λ_ Y=>Y = Υ Β sz Τ M cap (D.set j e)::D8) :=
 Ef.skip (λθ Α ρ w ea s b0 pos af g=>by
  have s1:=s.perm (hp.perm.append_right Α);obtain⟨p1,p2,p3,p4⟩:=Sat.Lw s1;rcases p4 with⟨rfl,rfl⟩|⟨gb,I,rfl,f1,f2,f3⟩
  .omega
  .have hb:w.heap[gb]? = some (.cells I Τ (0,0)):=f3.IN
   have a5:j*sz+o<D.length*sz:=by
    have:(j+1)*sz<=D.length*sz:=Nat.mul_le_mul_right _ hj
    rw[Nat.succ_mul] at this;omega
   have a6:j*sz+o<I.size:=by
    have:=Nat.mul_le_mul_right sz p2
    omega
   have a3:∀y∈D.set j e,(Β y).length=sz:=by
    intro y a9;rcases List.mem_or_eq_of_mem_set a9 with h|h
    .exact p1 y h
    .subst h;rw[he,List.length_set];exact p1 _ (by rw[List.getElem!_eq_getElem?_getD,List.getElem?_eq_getElem hj];exact List.getElem_mem _)
   have r:w.cell? ⟨gb,j*sz+o,none⟩=some I[j*sz+o]:=by rw[dI hb];simp[a6]
   have a4:w.frozen? ⟨gb,j*sz+o,none⟩=false:=by simp[World.frozen?,hb]
   have a2:v.cells=#[v]:=by cases v<;>first|rfl|cases J
   refine⟨w.setCell ⟨gb,j*sz+o,none⟩ v,_,?_,rfl,?_⟩
   .have a7 : χ env x=some (.pointer (some ⟨gb,j*sz+o,none⟩)):=by rw[K];simp only[Ks,Option.map_some,fi]
    simp[execOp,aH ea a7,aH ea Z,Instr.storeAt,Instr.sureAddr,storeVar,Iv.L5,a2,storeCells,Addr.add,run_store _ _ _ _ _ J,r,a4]
   .have s3:Sat θ (h1 gb (.cells (I.setIfInBounds (j*sz+o) v) Τ (0,0))::(D8++Α)) (w.setCell ⟨gb,j*sz+o,none⟩ v):=by
     refine Sat.update f3 ⟨s.1.tape,s.1.os,s.1.output,s.1.drawn⟩ ?_ (λk x hk K=>by rw[kJ v hk];exact K);rw[kY v hb]
    refine Sat.Mu (L:=D8++Α) s3 a3 (by simpa using p2) p3 (by simpa using f1) ?_;rw[wy p1 hj ho he,<-f2];simp[List.take_set])
def Ef.j5{t:TypeId}{x y:Operand}{M:OA}{j Τ cap:Nat}{k:IntKind}{n:Int}{D:List Int}{D8:LH}[ht:Iv P t][hp:MO L M Int (a0 k) 1 Τ cap D D8]
  (K:χ env x=some (.pointer (Ks M 1 j 0))) (Z:χ env y=some (.int k n)) (hj:j<D.length) :
  Ef P L env (.store t x y) ty (λ_ Y=>Y = Υ (a0 k) 1 Τ M cap (D.set j n)::D8):=Ef.d9 n K Z rfl rfl hj (by omega)
def O.k9{s t:TypeId}{x:Operand}{k:IntKind}{a:Int}[hs:LP P s k][ht:LP P t .i64](K:χ env x=some (.int k a))(h0 : -9223372036854775808<=a)(J:a<=9223372036854775807):O P L env (.convert s t x) ty (.int .i64 a):=by
 have:=O.conv (P:=P) (L:=L) (ty:=ty) (s:=s) (t:=t) K
 rwa [IntWalk.i64_in a ⟨h0,J⟩] at this
def O.l7{s t:TypeId}{x:Operand}{k:IntKind}{a:Int}[hs:LP P s k][ht:LP P t .u8](K:χ env x=some (.int k a))(h0:0<=a)(J:a<=255):O P L env (.convert s t x) ty (.int .u8 a):=by
 have:=O.conv (P:=P) (L:=L) (ty:=ty) (s:=s) (t:=t) K
 rwa [IntWalk.u8_in a ⟨h0,J⟩] at this
def O.k7{s t:TypeId}{x:Operand}{k:IntKind}{a:Int}[hs:LP P s k][ht:LP P t .u64](K:χ env x=some (.int k a))(h0:0<=a)(J:a<=18446744073709551615):O P L env (.convert s t x) ty (.int .u64 a):=by
 have:=O.conv (P:=P) (L:=L) (ty:=ty) (s:=s) (t:=t) K
 rwa [IntWalk.u64_in a ⟨h0,J⟩] at this
end
end
section
section
variable {P:Program}{N:Nat}{env:Env}{L:LH}{Ν:E1}{ops:Array Oper}{ic:List Oper}{Ξ i:Nat}{op:Op}{ty:TypeId}{pos:String}{af:Array Edge}{X:LH}{f:Nat->Value}{g:Nat->LH}{done:List Nat}{kP:List Im}{D3:List PE}
def R.c7(he:Ef P L env op ty (λ_ Y=>Y = X))(h:R P N ops ic env X Ν):R P N ops (⟨none,op,ty,pos,af,none⟩::ic) env L Ν:=R.I1 he (by rintro _ _ rfl;exact h)
def R.NM(he:Ef P L env op ty (λv Y=>∃b,v=f b/\Y = g b))(hd:Ξ<N)(h:∀b,R P N ops ic ((Ξ,f b)::env) (g b) Ν):R P N ops (⟨some Ξ,op,ty,pos,af,none⟩::ic) env L Ν:=R.ef he hd (by rintro _ _⟨b,rfl,rfl⟩;exact h b)
def Ο.a8(he:Ef P L env op ty (λ_ Y=>Y = X))(h:h2 P N ops done i kP D3 [] env X Ν):Ο P N ops done (.ef i) kP none op ty D3 env L Ν:=Ο.I1 he (by rintro _ _ rfl;exact h)
def Ο.NM(he:Ef P L env op ty (λv Y=>∃b,v=f b/\Y = g b))(hd:Ξ<N)(h:∀b,h2 P N ops done i kP D3 [] ((Ξ,f b)::env) (g b) Ν):Ο P N ops done (.ef i) kP (some Ξ) op ty D3 env L Ν:=Ο.ef he hd (by rintro _ _⟨b,rfl,rfl⟩;exact h b)
end
class En (P:Program) (f:FuncId) (fn:outParam Func) (N:outParam Nat):Prop where
 en:Enters P f
 hf:P.funcs[f]? = some fn
 hN:fn.ntmps=N
def Λ.bd{P:Program}{f:FuncId}{fn:Func}{c:Code}{args:LV}{L:LH}{post:Value->LH->Prop}{rs:List ResultVar}{N:Nat}[e:En P f fn N](h:Δ P N c (Kr args 0) L (Ends P N rs post))(hb:fn.body=some c:=by exact rfl)(hr:fn.results=rs.toArray:=by exact rfl)(hn:args.length<=N:=by simp):Λ P f args.toArray L post:=Λ.body N e.en e.hf hb hr e.hN hn h
def KX.en{P:Program}{N:Nat}{env:Env}{L:LH}{rs:List ResultVar}{post:Value->LH->Prop}{vs:LV}{Y : LH}(h3:post (KD vs) Y)(J:B6 P N env L rs vs:=by exact B6.tmps rfl)(U:A L Y:=by repeat (first|exact A.refl _|exact A.nil _|refine A.m6 ?_|refine A.trans A.drop ?_)):Ends P N rs post .ret env L:=KX.a8 J U h3
def R.ca{P:Program}{N:Nat}{env:Env}{L:LH}{Ν:E1}{Ξ:Nat}{f:FuncId}{D:Array Operand}{ats:Array TypeId}{ty:TypeId}{vs:LV}{post:Value->LH->Prop}{r:Array Oper}{ic:List Oper}{pos:String}{af:Array Edge}(c:Λ P f vs.toArray L post)(h:∀v Y,post v Y->R P N r ic ((Ξ,v)::env) Y Ν)(hv:eG env D.toList=some vs:=by exact rfl)(hd:Ξ<N:=by decide):R P N r (⟨some Ξ,.call {callee:=.value (.func f),args:=D,argTypes:=ats},ty,pos,af,none⟩::ic) env L Ν:=R.ef (Ef.d8 c hv) hd h
def R.cr{P:Program}{N:Nat}{env:Env}{L:LH}{Ν:E1}{Ξ:Nat}{f:FuncId}{D:Array Operand}{ats:Array TypeId}{ty:TypeId}{vs:LV}{r:Array Oper}{ic:List Oper}{pos:String}{af:Array Edge}{a:Value}{ξ:LH}(c:Λ P f vs.toArray L (λv Y=>v=a/\Y = ξ))(h:R P N r ic ((Ξ,a)::env) ξ Ν)(hv:eG env D.toList=some vs:=by exact rfl)(hd:Ξ<N:=by decide):R P N r (⟨some Ξ,.call {callee:=.value (.func f),args:=D,argTypes:=ats},ty,pos,af,none⟩::ic) env L Ν:=R.ef (Ef.d8 c hv) hd (by rintro _ _⟨rfl,rfl⟩;exact h)
def Ο.ca{P:Program}{N:Nat}{env:Env}{L:LH}{Ν:E1}{Ξ:Nat}{f:FuncId}{D:Array Operand}{ats:Array TypeId}{ty:TypeId}{vs:LV}{post:Value->LH->Prop}{I:Array Oper}{done:List Nat}{kP:List Im}{r:List PE}{i:Nat}(c:Λ P f vs.toArray L post)(h:∀v Y,post v Y->h2 P N I done i kP r [] ((Ξ,v)::env) Y Ν)(hv:eG env D.toList=some vs:=by exact rfl)(hd:Ξ<N:=by decide):Ο P N I done (.ef i) kP (some Ξ) (.call {callee:=.value (.func f),args:=D,argTypes:=ats}) ty r env L Ν:=Ο.ef (Ef.d8 c hv) hd h
def Ο.cr{P:Program}{N:Nat}{env:Env}{L:LH}{Ν:E1}{Ξ:Nat}{f:FuncId}{D:Array Operand}{ats:Array TypeId}{ty:TypeId}{vs:LV}{I:Array Oper}{done:List Nat}{kP:List Im}{r:List PE}{i:Nat}{a:Value}{ξ:LH}(c:Λ P f vs.toArray L (λv Y=>v=a/\Y = ξ))(h:h2 P N I done i kP r [] ((Ξ,a)::env) ξ Ν)(hv:eG env D.toList=some vs:=by exact rfl)(hd:Ξ<N:=by decide):Ο P N I done (.ef i) kP (some Ξ) (.call {callee:=.value (.func f),args:=D,argTypes:=ats}) ty r env L Ν:=Ο.ef (Ef.d8 c hv) hd (by rintro _ _⟨rfl,rfl⟩;exact h)
def Δ.dr{P:Program}{env:Env}{L:LH}{Ν:E1}(N F:Nat){l:List Oper}(kP:List Im)[hK:Mw Ν](h:GP P N l.toArray [] kP [] env L Ν)(hm:P.follows .mixedOrders=true:=by exact mixed)(hp:(iE l.toArray [] kP && (kP.length == l.toArray.size) && Region.noSelect l.toArray && NL l.toArray)=true:=by kernel_rfl):Δ P N (.region F l.toArray true) env L Ν:=Δ.j0 kP hm hp h
def RK(n:Nat):Code->Bool
 | .region i _ _=>Nat.beq i n
 | _=>false
def Ie(n:Nat):Code->Bool
 | .seq x _=>RK n x
 | _=>false
def Δ.sn{P:Program}{N:Nat}{env:Env}{L:LH}{Ν:E1}(n:Nat){x y:Code}(h:Δ P N x env L (Ν.seq λr Y=>Δ P N y r Y Ν))(hb:RK n x=false:=by rfl):Δ P N (.seq x y) env L Ν:=Δ.seq h
def Δ.sm{P:Program}{N:Nat}{env:Env}{L:LH}{Ν:E1}(n:Nat){x y:Code}(h:Δ P N x env L (Ν.seq λr Y=>Δ P N y r Y Ν))(hb:Ie n x=false:=by rfl):Δ P N (.seq x y) env L Ν:=Δ.seq h
abbrev C9(a:Value)(ξ:LH):Value->LH->Prop:=λv Y=>v=a/\Y = ξ
structure Hid (ψ:Prop):Prop where
 out:ψ
def Γ{φ:Prop}(h:φ:=by kernel_rfl):φ:=h
def ac{φ:Prop}(h:φ:=by decide):φ:=h
def ag{φ:Prop}(h:φ:=by repeat (first|exact A.refl _|exact A.nil _|refine A.m6 ?_|refine A.trans A.drop ?_)):φ:=h
def aw{φ:Prop}(h:φ:=by exact B6.tmps rfl):φ:=h
def bR{φ:Prop}(h:φ:=by simp):φ:=h
def aS{φ:Prop}(h:φ:=by rfl):φ:=h
def gg{φ:Prop}(h:φ:=by simp;omega):φ:=h
def iG{φ:Prop}(h:φ:=by dsimp only;omega):φ:=h
def eY{φ:Prop}(h:φ:=by repeat (first|exact A.refl _|apply A.take)):φ:=h
def B{φ:Prop}(h:φ:=by omega):φ:=h
theorem ay{φ:Prop}(h:φ:=by grind):φ:=h
def bC(i:Nat):((i+1:Nat):Int)=(i:Int)+1:=by omega
def ru{α:Type}{p:α->Prop}:∀x∈([]:List α),p x:=λ_ h=>iW h List.not_mem_nil
abbrev al(b:Nat):Value:=.pointer (some ⟨b,0,none⟩)
abbrev E(x:Int):Value:=.int .i64 x
abbrev ae(a:OA)(n c:Nat):Value:=.slice a n c
abbrev bh(l:LV):Value:=.agg l.toArray
def dF:type_of% @Array.length_toList:=@Array.length_toList
def jr:type_of% @Bool.and_eq_true:=@Bool.and_eq_true
def dJ:type_of% @Bool.false_eq_true:=@Bool.false_eq_true
def em:type_of% @Bool.false_ne_true:=@Bool.false_ne_true
def ir:type_of% @Int.ediv_nonneg:=@Int.ediv_nonneg
def cQ:type_of% @Int.emod_lt_of_pos:=@Int.emod_lt_of_pos
def dz:type_of% @Int.emod_nonneg:=@Int.emod_nonneg
def dh:type_of% @Int.fdiv_eq_ediv_of_nonneg:=@Int.fdiv_eq_ediv_of_nonneg
def co:type_of% @Int.le_refl:=@Int.le_refl
def aZ:type_of% @Int.toNat_natCast:=@Int.toNat_natCast
def ax:type_of% @List.append_assoc:=@List.append_assoc
def aJ:type_of% @List.append_nil:=@List.append_nil
def aj{α:Type _}{a:α}{b c:List α}:(a::b)++c=a::(b++c):=rfl
theorem bS:type_of% @List.drop_eq_getElem_cons:=@List.drop_eq_getElem_cons
theorem bN:type_of% @List.drop_of_length_le:=@List.drop_of_length_le
def bG:type_of% @List.eq_nil_of_length_eq_zero:=@List.eq_nil_of_length_eq_zero
def eV:type_of% @List.eq_of_mem_replicate:=@List.eq_of_mem_replicate
def eN:type_of% @List.ext_getElem:=@List.ext_getElem
def fY:type_of% @List.ext_getElem?:=@List.ext_getElem?
def cZ:type_of% @List.flatMap_append:=@List.flatMap_append
def aR:type_of% @List.flatMap_cons:=@List.flatMap_cons
def cH:type_of% @List.flatMap_nil:=@List.flatMap_nil
def dP:type_of% @List.getElem_append_right:=@List.getElem_append_right
def eM:type_of% @List.getElem_map:=@List.getElem_map
def cG:type_of% @List.getElem_mem:=@List.getElem_mem
def eK:type_of% @List.getElem_set:=@List.getElem_set
def aq:type_of% @List.length_append:=@List.length_append
def aO:type_of% @List.length_cons:=@List.length_cons
def ck:type_of% @List.length_drop:=@List.length_drop
def dN:type_of% @List.length_filter_le:=@List.length_filter_le
def ah:type_of% @List.length_map:=@List.length_map
def aX:type_of% @List.length_nil:=@List.length_nil
def bq:type_of% @List.length_set:=@List.length_set
def bu:type_of% @List.length_singleton:=@List.length_singleton
def aK:type_of% @List.length_take:=@List.length_take
def cj:type_of% @List.lookup_cons:=@List.lookup_cons
def aL:type_of% @List.map_append:=@List.map_append
theorem cK:type_of% @List.map_congr_left:=@List.map_congr_left
def aF:type_of% @List.map_cons:=@List.map_cons
def cO:type_of% @List.map_map:=@List.map_map
def aY:type_of% @List.map_nil:=@List.map_nil
def dQ:type_of% @List.mem_append_left:=@List.mem_append_left
def dx:type_of% @List.mem_append_right:=@List.mem_append_right
def dL:type_of% @List.mem_cons:=@List.mem_cons
def aB:type_of% @List.mem_cons_of_mem:=@List.mem_cons_of_mem
theorem az:type_of% @List.mem_cons_self:=@List.mem_cons_self
theorem Kg:type_of% @List.mem_map_of_mem:=@List.mem_map_of_mem
def dC:type_of% @List.mem_of_mem_drop:=@List.mem_of_mem_drop
def cl:type_of% @List.mem_of_mem_take:=@List.mem_of_mem_take
def ak{α:Type _}{b:List α}:[]++b=b:=rfl
def fX:type_of% @List.nodup_append:=@List.nodup_append
def el:type_of% @List.nodup_cons:=@List.nodup_cons
def aD:type_of% @List.not_mem_nil:=@List.not_mem_nil
def ec:type_of% @List.pairwise_singleton:=@List.pairwise_singleton
theorem dq:type_of% @List.perm_middle:=@List.perm_middle
def eA:type_of% @List.set_append_right:=@List.set_append_right
def fh:type_of% @List.set_cons_zero:=@List.set_cons_zero
def fW:type_of% @List.size_toArray:=@List.size_toArray
def ej:type_of% @List.sum_append:=@List.sum_append
def bZ:type_of% @List.sum_cons:=@List.sum_cons
theorem cz:type_of% @List.take_append_drop:=@List.take_append_drop
theorem cn:type_of% @List.take_length:=@List.take_length
theorem aG:type_of% @List.take_of_length_le:=@List.take_of_length_le
theorem av:type_of% @List.take_succ_eq_append_getElem:=@List.take_succ_eq_append_getElem
def aU:type_of% @List.take_zero:=@List.take_zero
def df:type_of% @Nat.add_assoc:=@Nat.add_assoc
def dl:type_of% @Nat.add_mul:=@Nat.add_mul
def dW:type_of% @Nat.add_zero:=@Nat.add_zero
def eW:type_of% @Nat.div_add_mod:=@Nat.div_add_mod
def ez:type_of% @Nat.div_lt_iff_lt_mul:=@Nat.div_lt_iff_lt_mul
def aP:type_of% @Nat.le_of_ble_eq_true:=@Nat.le_of_ble_eq_true
def au:type_of% @Nat.le_refl:=@Nat.le_refl
def aQ:type_of% @Nat.le_trans:=@Nat.le_trans
def cX:type_of% @Nat.min_eq_left:=@Nat.min_eq_left
def dA:type_of% @Nat.mod_lt:=@Nat.mod_lt
def bK:type_of% @Nat.mul_le_mul_right:=@Nat.mul_le_mul_right
def gA:type_of% @Nat.succ_mul:=@Nat.succ_mul
def cW:type_of% @Nat.zero_add:=@Nat.zero_add
def aC:type_of% @Nat.zero_le:=@Nat.zero_le
def gF:type_of% @Option.map_none:=@Option.map_none
def dM:type_of% @Option.map_some:=@Option.map_some
def aA{φ:Prop}(h:φ:=by repeat (first|exact J9.nil _|refine J9.cons rfl ?_)):φ:=h
def wD{φ:Prop}(h:φ:=by first|((with_reducible apply O.v6);exact O.move rfl)|((with_reducible apply O.p7);exact O.assign rfl)|((with_reducible apply O.u9);first|exact O.n7 rfl rfl|exact O.m9 rfl rfl)|((with_reducible apply O.o6);exact O.extract rfl rfl)|((with_reducible apply O.w8);exact O.nilCheck rfl)|((with_reducible apply O.p6);exact O.n9 rfl rfl B B)|((with_reducible apply O.w9);first|exact O.eql rfl rfl|exact O.neq rfl rfl|exact O.lss rfl rfl|exact O.leq rfl rfl|exact O.gtr rfl rfl|exact O.geq rfl rfl|exact O.add rfl rfl B B|exact O.sub rfl rfl B B|exact O.mul rfl rfl B B|exact O.quo rfl rfl B B B|exact O.x8 rfl rfl B B B|exact O.rem rfl rfl B B|exact O.x7 rfl rfl B|exact O.u6 rfl rfl|exact O.t8 rfl rfl|exact O.p5 rfl rfl|exact O.w4 rfl rfl|exact O.y9 rfl rfl|exact O.y8 rfl rfl|exact O.u4 rfl rfl|exact O.t7 rfl rfl|exact O.w7 rfl rfl aS aS|exact O.w5 rfl rfl aS aS)|((with_reducible apply O.z2);first|exact O.y6 rfl|exact O.y7 rfl|exact O.not rfl|exact O.o7 rfl|exact O.neg rfl B B)|((with_reducible apply O.q9);first|exact O.build rfl rfl|exact O.u7 rfl rfl)|((with_reducible apply O.v7);exact O.makeFunc rfl rfl)|((with_reducible apply O.q8);first|exact O.q7 rfl rfl B B|exact O.n5 rfl rfl B B|exact O.o9 rfl rfl rfl B B B|exact O.o8 rfl rfl rfl B B B)|((with_reducible apply O.v8);first|exact O.p9 rfl|exact O.u0 rfl|exact O.min2 rfl rfl|exact O.max2 rfl rfl)|((with_reducible apply O.l0);first|exact O.fieldAddr rfl|exact O.c8 rfl (by first|omega|exact aP rfl)|exact O.f5 rfl)|((with_reducible apply O.l8);first|exact O.k9 rfl B B|exact O.l7 rfl B B|exact O.k7 rfl B B|exact O.conv rfl|exact O.k8 rfl (by first|rfl|omega|(simp;first|done|omega)))):φ:=h
def wC{φ:Prop}(h:φ:=by first|((with_reducible apply O.o0);first|exact O.d8 rfl rfl|exact O.f8 rfl (by first|omega|exact aP rfl) ac rfl|exact O.d7 rfl aS|exact O.d9 rfl (by first|omega|exact aP rfl)|exact O.c9 rfl rfl)|((with_reducible apply O.j7);first|exact O.indexAddr rfl rfl B (by first|omega|exact aP rfl) (by first|omega|exact aP rfl)|exact O.l6 rfl rfl B B|exact O.m5 rfl rfl (by first|omega|exact aP rfl) B B)|((with_reducible apply O.l0);first|exact O.fieldAddr rfl|exact O.c8 rfl (by first|omega|exact aP rfl)|exact O.f5 rfl)|((with_reducible apply O.l8);first|exact O.k9 rfl B B|exact O.l7 rfl B B|exact O.k7 rfl B B|exact O.conv rfl|exact O.k8 rfl (by first|rfl|omega|(simp;first|done|omega)))):φ:=h
def wB{φ:Prop}(h:φ:=by first|((with_reducible apply O.o0);first|exact O.d8 rfl rfl|exact O.f8 rfl (by first|omega|exact aP rfl) ac rfl|exact O.d7 rfl aS|exact O.d9 rfl (by first|omega|exact aP rfl)|exact O.c9 rfl rfl)|((with_reducible apply O.j7);first|exact O.indexAddr rfl rfl B (by first|omega|exact aP rfl) (by first|omega|exact aP rfl)|exact O.j0 rfl rfl B B|exact O.l6 rfl rfl B B|exact O.m5 rfl rfl (by first|omega|exact aP rfl) B B)|((with_reducible apply O.l0);first|exact O.fieldAddr rfl|exact O.c8 rfl (by first|omega|exact aP rfl)|exact O.f5 rfl)|((with_reducible apply O.l8);first|exact O.k9 rfl B B|exact O.l7 rfl B B|exact O.k7 rfl B B|exact O.conv rfl|exact O.k8 rfl (by first|rfl|omega|(simp;first|done|omega)))):φ:=h
def wE{φ:Prop}(h:φ:=by first|exact wB|exact wD):φ:=h
def Ig{φ ψ:Prop}(k:ψ)(h:Hid ψ->φ:=by intro k;(repeat1' (first|((with_reducible apply R.a8);first|refine R.ev wE ac ?_|refine R.NM (Ef.j9 rfl) ac ?_|refine R.NM (Ef.k7 rfl rfl) ac ?_|refine R.NM (Ef.alloc) ac ?_|refine R.NM (Ef.lit rfl rfl ac rfl) ac ?_)|((with_reducible apply R.d8);first|refine R.f8 rfl rfl ac ?_|refine R.f9 rfl rfl ac ?_|refine R.c9 rfl rfl ac ?_)|with_reducible apply R.nil|((with_reducible apply R.g8);first|refine R.c7 (Ef.j5 rfl rfl (by first|omega|exact aP rfl)) ?_|refine R.c7 (Ef.j0 rfl rfl rfl rfl) ?_|refine R.c7 (Ef.f9 rfl rfl aS aS (by first|exact Mf.one _|simp[Value.oneCell'])) ?_|refine R.c7 (Ef.f8 rfl rfl aS rfl (by first|exact Mf.one _|simp[Value.oneCell'])) ?_)|((with_reducible apply GP.d9);first|refine GP.go rfl ?_|refine GP.d7 rfl rfl rfl ac ?_|refine GP.d8 rfl rfl rfl ac ?_|refine GP.c9 rfl rfl rfl ac ?_)|((with_reducible apply Ο.c8);first|refine Ο.H6 wD ac ?_|refine Ο.Js wC ac ?_|refine Ο.H6 (by((with_reducible apply O.j7);exact O.j0 rfl rfl B B)) ac ?_)|with_reducible apply GP.nil|((with_reducible apply Ο.c9);first|refine Ο.NM (Ef.j9 rfl) ac ?_|refine Ο.NM (Ef.k7 rfl rfl) ac ?_|refine Ο.NM (Ef.alloc) ac ?_|refine Ο.NM (Ef.lit rfl rfl ac rfl) ac ?_)|((with_reducible apply Ο.c7);first|refine Ο.a8 (Ef.j5 rfl rfl (by first|omega|exact aP rfl)) ?_|refine Ο.a8 (Ef.j0 rfl rfl rfl rfl) ?_|refine Ο.a8 (Ef.f9 rfl rfl aS aS (by first|exact Mf.one _|simp[Value.oneCell'])) ?_|refine Ο.a8 (Ef.f8 rfl rfl aS rfl (by first|exact Mf.one _|simp[Value.oneCell'])) ?_)|with_reducible apply h2.nil|with_reducible apply CB.tt|with_reducible apply CB.ff|with_reducible refine CB.pos B ?_|with_reducible refine CB.neg B ?_|with_reducible refine CB.pos (by simp;first|done|omega) ?_|with_reducible refine CB.neg (by simp;first|done|omega) ?_|with_reducible apply GB.tt|with_reducible apply GB.ff|with_reducible refine GB.pos B ?_|with_reducible refine GB.neg B ?_|with_reducible refine GB.pos (by simp;first|done|omega) ?_|with_reducible refine GB.neg (by simp;first|done|omega) ?_|with_reducible refine KX.f8 ?_|with_reducible refine KX.d7 ?_|with_reducible refine KX.f5 ?_|with_reducible refine KX.g8 ?_|with_reducible refine KX.d8 ?_|with_reducible refine KX.d9 ?_|with_reducible refine KX.c7 ?_|with_reducible refine KX.c9 ac ?_|with_reducible apply Δ.block|with_reducible apply Δ.region|with_reducible apply Δ.skip|with_reducible apply Δ.exit|with_reducible apply Δ.ret|refine Δ.cond rfl ?_));exact Hid.out k):φ:=h ⟨k⟩
def run{φ ψ:Prop}(k:ψ)(h:Hid ψ->φ:=by intro k;(repeat1' (first|refine Ig ?_|((with_reducible apply h2.a8);first|refine h2.drop rfl ?_|refine h2.keep wB ?_)|with_reducible apply Δ.seq));exact Hid.out k):φ:=h ⟨k⟩
end
section
open Go.ChangeShapes Go.WideShapes Go.ChangeAt Go.RowKit
def ue(w:World):HP:=λι _=>Hp.sub (gk w) ι
def IC.snoc{L:LH}{ι h:Hp}{p:HP}(s:IC L ι h)(hp:p ι Hp.emp):IC (L++[p]) ι h:=by
 induction L generalizing h with
 | nil=>exact⟨ι,Hp.emp,h,Hp.sub.refl _,Hp.c7 _,Hp.a8 _,Hp.sub.refl _,hp,trivial⟩
 | cons q L ih =>
  obtain⟨F9,D7,C3,a,b,c,Ξ,e,f⟩:=s;exact⟨F9,D7,C3,a,b,c,Ξ,e,ih f⟩
def Λ.law{P:Program}{f:FuncId}{args:Array Value}{L:LH}{v:Value}{post:LH->Prop}(h:Λ P f args L (λu Y=>u=v/\post Y))(w:World)(hs:IC L (gk w) Hp.emp) :
  Calls P f args w λe ab=>e=.returned v/\Below w.heap.size w ab:=by
 have s0:Sat ⟨w.tape,w.os,w.output,w.drawn⟩ (L++[ue w]) w:=⟨⟨rfl,rfl,rfl,au _⟩,gk w,Hp.emp,λ_ _ _=>rfl,Hp.sub.refl _,Hp.a8 _,hs.snoc (Hp.sub.refl _)⟩;refine(h.calls _ _ w s0).mono ?_;rintro e ab ⟨u,Y,rfl,⟨rfl,_⟩,s1⟩;refine⟨rfl,?_⟩;have s2:Sat ⟨w.tape,w.os,w.output,w.drawn⟩ (ue w::Y) ab:=s1.perm (List.perm_append_singleton _ _);obtain⟨ok,ι,h,a,b1,c,F9,D7,C3,d1,d2,d3,d4,d5,d6⟩:=s2;have hk:∀k o,w.heap[k]? = some o->ab.heap[k]? = some o:=λk o K=>b1 k o (d1 k o (d5 k o K));refine⟨ok.os,ok.tape,ok.output,?_,λk r=>?_⟩
 .rcases Nat.lt_or_ge ab.heap.size w.heap.size with a2|I
  .have J:=hk ab.heap.size _ (Array.getElem?_eq_getElem a2);rw[Array.getElem?_eq_none (au _)] at J;cases J
  .exact I
 .rw[Array.getElem?_eq_getElem r];exact hk k _ (Array.getElem?_eq_getElem r)
def Ay{H:Type}{Β:TypeId×Value->H}{P:Program}{f:Func}{s:ChangeSpec}{apart fresh I:Bool}{W W' : World}{args:Array Value}{v:Value}{ds gs:List (DataW H)}{r pa pv:List MemPlace}
  (hW:DataW.Whole Β P f.params.toList s.vars apart W args.toList ds gs r)
  (a4:∀(b:Nat) (sp:Nat->Bool) (hd:Bool),DataW.TrodAll Β P W' b sp hd f.resultTypes.toList (v.resultList f.resultTypes.size) (s.fn H (ds++gs)).results [])
  (a2:DataW.TrodAll Β P W' 0 (λb=>decide (b<W.heap.size)) true f.params.toList args.toList (s.fn H (ds++gs)).args pa)
  (a3:DataW.TrodVars Β P W' (λb=>decide (b<W.heap.size)) s.vars (s.fn H (ds++gs)).vars pv)
  (a5:r=pa++pv) (hb:Below W.heap.size W W') :
  s.post Β P f apart fresh I false W args v W':=by
 refine⟨ds,gs,r,[],pa,pv,hW,a4 _ _ _,a2,a3,World.keptBut_mono (λp hp=>⟨hp,?_⟩) (hb.frame (·∈r)),λh=>by cases h⟩;rw[a5,List.mem_append] at hp;exact Or.inr hp
def vU{w:World}{k:IntKind}{b off len:Nat}{zs:List Int}(hc:∀i,i<zs.length->w.cell? ⟨b,off+i,none⟩=some (.int k (zs.getD i 0)))(hl:len<=zs.length):ε (a0 k) 1 (some ⟨b,off,none⟩) (zs.take len) (gk w) Hp.emp:=by
 refine⟨λ_ _=>rfl,?_⟩;rcases Nat.eq_zero_or_pos (zs.take len).length with h0|r
 .exact .inl (bG h0)
 right;have hz:0<zs.length:=by simp at r;omega
 have h0:=hc 0 hz;cases hb:w.heap[b]? with
 | none=>simp[World.cell?,hb] at h0
 | some o =>
  cases o with
  | cells cur Τ fz =>
   refine⟨b,off,cur,Τ,fz,rfl,hb,λi v hv=>?_⟩;rw[my] at hv
   have hi:i<(zs.take len).length:=by
    rcases Nat.lt_or_ge i (zs.take len).length with h|h
    .exact h
    .rw[List.getElem?_eq_none (by simpa using h)] at hv;cases hv
   have J:=hc i (by simp at hi;omega);rw[dI hb] at J;rw[J,<-hv];simp only[aK] at hi;simp[show i<len by omega,List.getD,List.getElem?_eq_getElem (B:i<zs.length)]
  | _=>simp[World.cell?,hb] at h0
def IC.push{L:LH}{ι:Hp}{p:HP}(hp:p ι Hp.emp)(s:IC L ι Hp.emp):IC (p::L) ι Hp.emp:=⟨ι,Hp.emp,Hp.emp,Hp.sub.refl _,Hp.c7 _,Hp.a8 _,Hp.sub.refl _,hp,s⟩
abbrev om(W:World)(b:Nat):Option Obj:=W.heap[b]?
def zy{H:Type}{Β:TypeId×Value->H}{P:Program}{W:World}{t e:TypeId}{k:IntKind}{M:OA}{len cap:Nat}{Ξ:DataW H}{p:List MemPlace}(ht:P.underlying t=some (.slice e))(he:P.underlying e=some (.int k))(hc:P.cellsOf e=1)
  (h:DataW.Trod Β P W 0 (λ_=>true) true t (.slice M len cap) Ξ p):∃D:List Int,ε (a0 k) 1 M D (gk W) Hp.emp/\len=D.length/\(len<=cap/\cap<=maxLen)/\∀x∈D,(Lit.int k x).wf=true:=by
 obtain⟨fuel,hf⟩:=h;rcases open_ints ht he hc hf with⟨I,K⟩|⟨a,a6,a4,zs,I,_,hl,hm,hz,K,r,a5⟩
 .simp[Value.cells] at I;obtain⟨rfl,rfl,rfl⟩:=I;exact⟨[],⟨by simp,.inl rfl⟩,rfl,⟨by simp,by simp⟩,by simp⟩
 .simp[Value.cells] at I;obtain⟨rfl,rfl,rfl⟩:=I;simp only[if_true] at hz;refine⟨zs.take len,?_,by simp[aK];omega,⟨hl,hm⟩,λx K=>a5 x (cl K)⟩;rcases Nat.eq_zero_or_pos zs.length with h0|a3
  .have:zs=[]:=bG h0;subst this;exact⟨by simp,.inl bR⟩
  .have J:=r 0 a3;obtain⟨b,off,a2⟩:=a
   have hs:a2=none:=by
    rw[oe] at J;unfold World.cell? at J;cases hb:om W b with
    | none=>simp[om] at hb;simp[hb] at J
    | some o =>
     simp only[om] at hb;simp only[hb] at J;cases o with
     | cells c Τ fz=>cases a2 with
      | none=>rfl
      | some x=>simp at J
     | _=>simp at J
   subst hs;exact vU (λi hi=>by rw[<-gG];exact r i hi) B
def qU{a:Int}(h:(Lit.int .i64 a).wf=true) : -9223372036854775808<=a/\a<=9223372036854775807:=by
 simp[Lit.wf,IntKind.min,IntKind.max,IntKind.signed,IntKind.bits] at h;omega
end
section
structure Ns where
 M:OA
 n:Nat
 cap:Nat
 deriving Inhabited
def pM(s:Ns):LV:=[.slice s.M s.n s.cap]
def K6{α:Type}(f:Int->α)(k:Int)(v:α):Int->α:=λj=>if j=k then v else f j
def pr{α:Type}(f:Int->α):List α:=[f 0,f 1]
section
variable {P:Program}{env:Env}{L:LH}{ty:TypeId}
def uO{t k e:TypeId}{p:Option Nat}{w:World}{n:Nat}(h:P.underlying t=some (.map k e)):(Op.equalIn (n+1) t (.map p) (.map none)).run P w=.ok p.isNone w:=by
 cases p<;>simp[Op.equalIn,run_underlying h]
def O.n8{t yt Ν Τ:TypeId}{x y:Operand}{b:Nat}[ht:Pd P t Ν Τ](K:χ env x=some (.map (some b)))(Z:χ env y=some (.map none)):O P L env (.binOp .eql t x y yt) ty (.bool false) :=
 O.mk (λ_ _ _ w ea _ _ _ _ _=>by
  have J:=iP (P:=P) (w:=w) (λn=>uO (n:=n) (p:=some b) ht.under);simp[execOp,aH ea K,aH ea Z,eqGuard,binOp,J])
def O.l9{t Ν Τ:TypeId}{x:Operand}{v:Value}[ht:Pd P t Ν Τ](K:χ env x=some v):O P L env (.makeInterface t x) ty (.iface t v) :=
 O.mk (λ_ _ _ w ea _ _ _ _ _=>by simp[execOp,aH ea K,Instr.makeInterface,run_underlying ht.under])
def O.p8{t xT Ν Τ:TypeId}{x:Operand}{v:Value}[ht:Pd P t Ν Τ](K:χ env x=some (.iface t v)):O P L env (.typeAssert x xT t false) ty v :=
 O.mk (λ_ _ _ w ea _ _ _ _ _=>by simp[execOp,aH ea K,Instr.typeAssert,run_underlying ht.under,go_sem,Result.andThen])
structure RL (P:Program) (f:FuncId):Prop where
 run:∀args w,(callFunc f args).run P w=((Extern.MapsClone.clone args).run P w).andThen λv ab=>.ok (.value v) ab
def se{Θ:Nat}{es:Array MapEntry}{clock:Nat}{w:World}(t:TypeId)(hb:w.heap[Θ]? = some (.map es clock)) :
  (Extern.MapsClone.clone #[.iface t (.map (some Θ))]).run P w=.ok (.iface t (.map (some w.heap.size))) (w.alloc (.map es clock)):=by
 have e:Extern.MapsClone.clone #[.iface t (.map (some Θ))]=(getObj Θ >>= λo=>match o with
   | .map entries clock=>(newObj (.map entries clock) >>= λn=>pure (.iface t (.map (some n))))
   | _ => stuck "maps.clone: a map expected") := rfl
 rw[e];simp[MapKept.run_getObj_map hb,Result.andThen,go_sem]
