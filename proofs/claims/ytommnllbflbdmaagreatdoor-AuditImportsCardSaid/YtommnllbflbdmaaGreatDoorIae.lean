/- Lemmas. -/
import Derived.Test.YtommnllbflbdmaaGreatDoorIad
import Derived.Laws.BytesArg
import Derived.Laws.Strings
import Derived.Laws.MakeOwn
import Derived.ProofKit
import Derived.Carry
import Derived.ChangeSlices
import Derived.ChangeSame
import Derived.OpenShut
import Derived.Laws.Externs
import Derived.MapKept
set_option linter.all false
namespace Go.V
section
class TyBool (P:Program) (T:Nat):Prop where
 under:P.underlying T=some .bool
section
variable {P:Program}{env:Env}{L:LH}{ty:TypeId}
def oR{t:TypeId}{a b:Bool}{w:World}{n:Nat}(he:P.underlying t=some .bool):(Op.equalIn (n+1) t (.bool a) (.bool b)).run P w=.ok (a == b) w:=by
 simp[Op.equalIn,run_underlying he]
def Ev.C1{t yt:TypeId}{x y:Operand}{φ ψ:Prop}[Decidable φ][Decidable ψ][ht:TyBool P t](hx:evE env x=some (.bool (dB φ)))(hy:evE env y=some (.bool (dB ψ))):Ev P L env (.binOp .neq t x y yt) ty (.bool (dB (¬(φ↔ψ)))) :=
 Ev.mk (fun _ _ _ w ea _ _ _ _ _=>by
  have h1:=kA (P:=P) (w:=w) (fun n=>oR (n:=n) (a:=dB φ) (b:=dB ψ) ht.under)
  have h2:(!(dB φ == dB ψ))=dB (¬(φ↔ψ)):=by
   rw[fR,fR,fR];by_cases h:φ<;>by_cases h' : ψ<;>simp[h,h']
  simp[execOp,aP ea hx,aP ea hy,eqGuard,binOp,h1,h2])
def Ev.C2{t yt:TypeId}{x y:Operand}{φ ψ:Prop}[Decidable φ][Decidable ψ][ht:TyBool P t](hx:evE env x=some (.bool (dB φ)))(hy:evE env y=some (.bool (dB ψ))):Ev P L env (.binOp .eql t x y yt) ty (.bool (dB (φ↔ψ))) :=
 Ev.mk (fun _ _ _ w ea _ _ _ _ _=>by
  have h1:=kA (P:=P) (w:=w) (fun n=>oR (n:=n) (a:=dB φ) (b:=dB ψ) ht.under)
  have h2:(dB φ == dB ψ)=dB (φ↔ψ):=by
   rw[fR,fR,fR];by_cases h:φ<;>by_cases h' : ψ<;>simp[h,h']
  simp[execOp,aP ea hx,aP ea hy,eqGuard,binOp,h1,h2])
def xy(a b:ByteArray):(a.toList == b.toList)=decide (a=b):=by
 rw[ByteArray.toList_eq,ByteArray.toList_eq];cases a with|mk a=>cases b with|mk b =>
 by_cases h:a=b
 ·subst h;simp
 ·simp[h]
def Ev.A0{t yt:TypeId}{x y:Operand}{a b:ByteArray}(hx:evE env x=some (.string a))(hy:evE env y=some (.string b)):Ev P L env (.binOp .eql t x y yt) ty (.bool (dB (a=b))) :=
 Ev.mk (fun _ _ _ w ea _ _ _ _ _=>by
  simp[execOp,aP ea hx,aP ea hy,eqGuard,binOp,Op.stringOp,fR,xy])
def Ev.y9{t yt:TypeId}{x y:Operand}{a b:ByteArray}(hx:evE env x=some (.string a))(hy:evE env y=some (.string b)):Ev P L env (.binOp .neq t x y yt) ty (.bool (dB (¬a=b))) :=
 Ev.mk (fun _ _ _ w ea _ _ _ _ _=>by
  simp[execOp,aP ea hx,aP ea hy,eqGuard,binOp,Op.stringOp,fR,xy])
def mZ(xs:List Int)(k:IntKind):xs.flatMap (encZ k)=xs.map (Value.int k):=nu _ xs
def Ev.l9{s t:TypeId}{x:Operand}{ad:OA}{n c E sz bb:Nat}{z:LV}{xs:List Int}[hs:TySl P s E sz bb z][he:TyInt P E .u8][ht:TyStr P t][hr:Rds L ad Int (encZ .u8) 1 xs](hx:evE env x=some (.slice ad n c))(hn:n=xs.length) :
  Ev P L env (.convert s t x) ty (.string (strOfNums xs)) :=
 Ev.mk (fun θ R _ w ea st _ _ _ _=>by
  subst hn;obtain⟨h1,h2⟩:=hr.rd θ R w st
  have hc:(convert s t (.slice ad xs.length c)).run P w=.ok (.string (strOfNums xs)) w:=by
   rw[run_convert_bytes_string w s t E ad xs.length c hs.under he.under ht.under];rcases h2 with rfl|⟨a,rfl,h3⟩
   ·cases ad with
    | none=>simp[Conv.bytesToString,strOfNums];rfl
    | some a =>
     have hl:(loadCells a 0).run P w=.ok (([]:List Int).map (Value.int .u8)).toArray w:=by simp[loadCells,loadCellsFrom]
     exact(run_bytesToString w a 0 c [] hl).trans (by simp[strOfNums];rfl)
   ·rw[mZ] at h3;have hl:=run_loadCells_list (P:=P) w a (xs.map (Value.int .u8)) h3;rw[List.length_map] at hl;rw[run_bytesToString w a xs.length c xs hl,foldl_push_bytes];simp[strOfNums,ByteArray.empty,ByteArray.emptyWithCapacity];rfl
  simp[execOp,aP ea hx,hc])
def su{α:Type}[Inhabited α](f:Nat→α)(x:α)(n:Nat)(h:∀i,i<n→f i=x):(Array.range n).map f=(List.replicate n x).toArray:=by
 apply Array.ext
 ·simp
 ·intro i h1 h2;simp at h1 ⊢;exact h i h1
def Ef.makeSlice{t:TypeId}{x y:Operand}{E bb:Nat}{z0:Value}{α:Type}(enc:α→LV)(e:α){n:Int}[ht:TySl P t E 1 bb [z0]](hx:evE env x=some (.int .i64 n))(hy:evE env y=some (.int .i64 n))(he:enc e=[z0])(h0:0≤n)(h1:n*bb≤16777216)(h2:n≤1000000000) :
  Ef P L env (.makeSlice t x y) ty (fun v L'=>∃b,v=.slice (some ⟨b,0,none⟩) n.toNat n.toNat∧L' = osl enc 1 E (some ⟨b,0,none⟩) n.toNat (List.replicate n.toNat e)::L) :=
 Ef.val (fun θ R a w ea s a0 pos af g=>⟨.slice (some ⟨w.heap.size,0,none⟩) n.toNat n.toNat,w.alloc (.cells (List.replicate n.toNat z0).toArray E),_,by
  obtain⟨ii,zz,i1,i2,i3,i4,i5⟩:=ht.parts
  have hz:zz.cells=#[z0]:=by
   have:=i3
   apply Array.ext';simpa using this
  have hm:madeCells zz.cells (n.toNat*ii.size)=(List.replicate n.toNat z0).toArray:=by
   rw[hz,i4,Nat.mul_one];exact su _ _ _ (fun i _=>by simp[Nat.mod_one])
  have hk:=run_make (P:=P) w t E ii zz ht.under i1 i2 .i64 .i64 n n h0 (Int.le_refl _) (by rw[i5,Int.mul_comm];omega) (by omega);rw[hm] at hk
  simp[execOp,aP ea hx,aP ea hy,hk],⟨_,rfl,rfl⟩,by
   have s1:=s.alloc (o:=.cells (List.replicate n.toNat z0).toArray E);refine Sat.osl_mk (enc:=enc) (sz:=1) (cap:=n.toNat) (xs:=List.replicate n.toNat e) (L:=L++R) s1 ?_ (by simp) (by simp only[maxLen];omega) (by simp) ?_
   ·intro x hx;rw[List.eq_of_mem_replicate hx,he];rfl
   ·have:∀k,(List.replicate k e).flatMap enc=List.replicate k z0:=by
     intro k;induction k with
     | zero=>rfl
     | succ k ih=>rw[List.replicate_succ,List.flatMap_cons,ih,he];rfl
    rw[this];simp⟩)
def Ef.ent{op:Op}{L' : LH}{post:Value→LH→Prop}(h:Ent L L')(k:Ef P L' env op ty post):Ef P L env op ty post:=fun θ R a w o next Q ha s h1 h2 hn=>k θ R a w o next Q ha (h θ R w s) h1 h2 hn
def wY{α:Type}[Inhabited α]{enc:α→LV}{sz o:Nat}{e:α}{v:Value}:∀{xs:List α} {j:Nat},(∀x∈xs,(enc x).length=sz)→j<xs.length→o<sz→enc e=(enc xs[j]!).set o v→(xs.set j e).flatMap enc=(xs.flatMap enc).set (j*sz+o) v
 | [],j,_,hj,_,_=>by simp at hj
 | x::xs,0,h,_,ho,he=>by
  have hx:=h x (by simp);simp only[List.set_cons_zero,List.flatMap_cons,Nat.zero_mul,Nat.zero_add];rw[List.set_append,if_pos (by omega),he];simp
 | x::xs,j+1,h,hj,ho,he=>by
  have hx:=h x (by simp);simp only[List.set_cons_succ,List.flatMap_cons];have e1:¬((j+1)*sz+o<(enc x).length):=by rw[hx,Nat.succ_mul];omega
  rw[List.set_append,if_neg e1];have e2:(j+1)*sz+o - (enc x).length=j*sz+o:=by rw[hx,Nat.succ_mul];omega
  rw[e2,wY (fun y hy=>h y (by simp[hy])) (by simpa using hj) ho (by simpa using he)]
def Ef.g7{t:TypeId}{x y:Operand}{ad:OA}{sz j o E cap:Nat}{α:Type}[Inhabited α]{enc:α→LV}{xs:List α}{Rest:LH}{v:Value}(e:α)[ht:TyOne P t][hp:PickOsl L ad α enc sz E cap xs Rest]
  (hx:evE env x=some (.pointer (elP ad sz j o))) (hy:evE env y=some v) (he:enc e=(enc xs[j]!).set o v) (h1:v.oneCell' = true) (hj:j<xs.length) (ho:o<sz) :
  Ef P L env (.store t x y) ty (fun _ L'=>L' = osl enc sz E ad cap (xs.set j e)::Rest) :=
 Ef.skip (fun θ R ρ w ea s a9 pos af g=>by
  have s1:=s.perm (hp.perm.append_right R);obtain⟨p1,p2,p3,p4⟩:=Sat.osl_parts s1;rcases p4 with⟨rfl,rfl⟩|⟨gb,a1,rfl,f1,f2,f3⟩
  ·omega
  ·have hb:w.heap[gb]? = some (.cells a1 E (0,0)):=f3.own_heap
   have a4:j*sz+o<xs.length*sz:=by
    have:(j+1)*sz≤xs.length*sz:=Nat.mul_le_mul_right _ hj
    rw[Nat.succ_mul] at this;omega
   have a5:j*sz+o<a1.size:=by
    have:=Nat.mul_le_mul_right sz p2
    omega
   have a6:∀y∈xs.set j e,(enc y).length=sz:=by
    intro y a8;rcases List.mem_or_eq_of_mem_set a8 with h|h
    ·exact p1 y h
    ·subst h;rw[he,List.length_set];exact p1 _ (by rw[List.getElem!_eq_getElem?_getD,List.getElem?_eq_getElem hj];exact List.getElem_mem _)
   have a0:w.cell? ⟨gb,j*sz+o,none⟩=some a1[j*sz+o]:=by rw[eu hb];simp[a5]
   have a7:w.frozen? ⟨gb,j*sz+o,none⟩=false:=by simp[World.frozen?,hb]
   have a3:v.cells=#[v]:=by cases v<;>first|rfl|cases h1
   refine⟨w.setCell ⟨gb,j*sz+o,none⟩ v,_,?_,rfl,?_⟩
   ·have a2 : evE env x=some (.pointer (some ⟨gb,j*sz+o,none⟩)):=by rw[hx];simp only[elP,Option.map_some,gj]
    simp[execOp,aP ea a2,aP ea hy,Instr.storeAt,Instr.sureAddr,storeVar,TyOne.sizeOf_run,a3,storeCells,Addr.add,run_store _ _ _ _ _ h1,a0,a7]
   ·have s3:Sat θ (own gb (.cells (a1.setIfInBounds (j*sz+o) v) E (0,0))::(Rest++R)) (w.setCell ⟨gb,j*sz+o,none⟩ v):=by
     refine Sat.update f3 ⟨s.1.tape,s.1.os,s.1.output,s.1.drawn⟩ ?_ (fun k x hk hx=>by rw[lC v hk];exact hx);rw[lO v hb]
    refine Sat.osl_mk (L:=Rest++R) s3 a6 (by simpa using p2) p3 (by simpa using f1) ?_;rw[wY p1 hj ho he,←f2];simp[List.take_set])
def Ef.l6{t:TypeId}{x y:Operand}{ad:OA}{j E cap:Nat}{k:IntKind}{n:Int}{xs:List Int}{Rest:LH}[ht:TyOne P t][hp:PickOsl L ad Int (encZ k) 1 E cap xs Rest]
  (hx:evE env x=some (.pointer (elP ad 1 j 0))) (hy:evE env y=some (.int k n)) (hj:j<xs.length) :
  Ef P L env (.store t x y) ty (fun _ L'=>L' = osl (encZ k) 1 E ad cap (xs.set j n)::Rest):=Ef.g7 n hx hy rfl rfl hj (by omega)
def Ev.m5{s t:TypeId}{x:Operand}{k:IntKind}{a:Int}[hs:TyInt P s k][ht:TyInt P t .i64](hx:evE env x=some (.int k a))(h0 : -9223372036854775808≤a)(h1:a≤9223372036854775807):Ev P L env (.convert s t x) ty (.int .i64 a):=by
 have:=Ev.conv (P:=P) (L:=L) (ty:=ty) (s:=s) (t:=t) hx
 rwa [IntWalk.i64_in a ⟨h0,h1⟩] at this
def Ev.o0{s t:TypeId}{x:Operand}{k:IntKind}{a:Int}[hs:TyInt P s k][ht:TyInt P t .u8](hx:evE env x=some (.int k a))(h0:0≤a)(h1:a≤255):Ev P L env (.convert s t x) ty (.int .u8 a):=by
 have:=Ev.conv (P:=P) (L:=L) (ty:=ty) (s:=s) (t:=t) hx
 rwa [IntWalk.u8_in a ⟨h0,h1⟩] at this
def Ev.l8{s t:TypeId}{x:Operand}{k:IntKind}{a:Int}[hs:TyInt P s k][ht:TyInt P t .u64](hx:evE env x=some (.int k a))(h0:0≤a)(h1:a≤18446744073709551615):Ev P L env (.convert s t x) ty (.int .u64 a):=by
 have:=Ev.conv (P:=P) (L:=L) (ty:=ty) (s:=s) (t:=t) hx
 rwa [IntWalk.u64_in a ⟨h0,h1⟩] at this
end
end
section
section
variable {P:Program}{N:Nat}{env:Env}{L:LH}{K:Post}{ops:Array Oper}{rest:List Oper}{d i:Nat}{op:Op}{ty:TypeId}{pos:String}{af:Array Edge}{X:LH}{f:Nat→Value}{g:Nat→LH}{done:List Nat}{plan:List Stp}{pend:List PE}
def GO.d7(he:Ef P L env op ty (fun _ L'=>L' = X))(h:GO P N ops rest env X K):GO P N ops (⟨none,op,ty,pos,af,none⟩::rest) env L K:=GO.efu he (by rintro _ _ rfl;exact h)
def GO.efB(he:Ef P L env op ty (fun v L'=>∃b,v=f b∧L' = g b))(hd:d<N)(h:∀b,GO P N ops rest ((d,f b)::env) (g b) K):GO P N ops (⟨some d,op,ty,pos,af,none⟩::rest) env L K:=GO.ef he hd (by rintro _ _⟨b,rfl,rfl⟩;exact h b)
def GPW.d7(he:Ef P L env op ty (fun _ L'=>L' = X))(h:GPK P N ops done i plan pend [] env X K):GPW P N ops done (.ef i) plan none op ty pend env L K:=GPW.efu he (by rintro _ _ rfl;exact h)
def GPW.efB(he:Ef P L env op ty (fun v L'=>∃b,v=f b∧L' = g b))(hd:d<N)(h:∀b,GPK P N ops done i plan pend [] ((d,f b)::env) (g b) K):GPW P N ops done (.ef i) plan (some d) op ty pend env L K:=GPW.ef he hd (by rintro _ _⟨b,rfl,rfl⟩;exact h b)
end
class En (P:Program) (f:FuncId) (fn:outParam Func) (N:outParam Nat):Prop where
 en:Enters P f
 hf:P.funcs[f]? = some fn
 hN:fn.ntmps=N
def Tri.bd{P:Program}{f:FuncId}{fn:Func}{c:Code}{args:LV}{L:LH}{post:Value→LH→Prop}{rs:List ResultVar}{N:Nat}[e:En P f fn N](h:G P N c (env0 args 0) L (Ends P N rs post))(hb:fn.body=some c:=by exact rfl)(hr:fn.results=rs.toArray:=by exact rfl)(hn:args.length≤N:=by simp):Tri P f args.toArray L post:=Tri.body N e.en e.hf hb hr e.hN hn h
def KX.en{P:Program}{N:Nat}{env:Env}{L:LH}{rs:List ResultVar}{post:Value→LH→Prop}{vs:LV}{L' : LH}(h3:post (resV vs) L')(h1:ResOk P N env L rs vs:=by exact ResOk.tmps rfl)(h2:Ent L L':=by repeat (first|exact Ent.refl _|exact Ent.nil _|refine Ent.o6 ?_|refine Ent.trans Ent.drop ?_)):Ends P N rs post .ret env L:=KX.d7 h1 h2 h3
def GO.ca{P:Program}{N:Nat}{env:Env}{L:LH}{K:Post}{d:Nat}{f:FuncId}{xs:Array Operand}{ats:Array TypeId}{ty:TypeId}{vs:LV}{post:Value→LH→Prop}{a0:Array Oper}{rest:List Oper}{pos:String}{af:Array Edge}(c:Tri P f vs.toArray L post)(h:∀v L',post v L'→GO P N a0 rest ((d,v)::env) L' K)(hv:fB env xs.toList=some vs:=by exact rfl)(hd:d<N:=by decide):GO P N a0 (⟨some d,.call {callee:=.value (.func f),args:=xs,argTypes:=ats},ty,pos,af,none⟩::rest) env L K:=GO.ef (Ef.j0 c hv) hd h
def GO.cr{P:Program}{N:Nat}{env:Env}{L:LH}{K:Post}{d:Nat}{f:FuncId}{xs:Array Operand}{ats:Array TypeId}{ty:TypeId}{vs:LV}{a0:Array Oper}{rest:List Oper}{pos:String}{af:Array Edge}{a:Value}{M:LH}(c:Tri P f vs.toArray L (fun v L'=>v=a∧L' = M))(h:GO P N a0 rest ((d,a)::env) M K)(hv:fB env xs.toList=some vs:=by exact rfl)(hd:d<N:=by decide):GO P N a0 (⟨some d,.call {callee:=.value (.func f),args:=xs,argTypes:=ats},ty,pos,af,none⟩::rest) env L K:=GO.ef (Ef.j0 c hv) hd (by rintro _ _⟨rfl,rfl⟩;exact h)
def GPW.ca{P:Program}{N:Nat}{env:Env}{L:LH}{K:Post}{d:Nat}{f:FuncId}{xs:Array Operand}{ats:Array TypeId}{ty:TypeId}{vs:LV}{post:Value→LH→Prop}{a1:Array Oper}{done:List Nat}{plan:List Stp}{a0:List PE}{i:Nat}(c:Tri P f vs.toArray L post)(h:∀v L',post v L'→GPK P N a1 done i plan a0 [] ((d,v)::env) L' K)(hv:fB env xs.toList=some vs:=by exact rfl)(hd:d<N:=by decide):GPW P N a1 done (.ef i) plan (some d) (.call {callee:=.value (.func f),args:=xs,argTypes:=ats}) ty a0 env L K:=GPW.ef (Ef.j0 c hv) hd h
def GPW.cr{P:Program}{N:Nat}{env:Env}{L:LH}{K:Post}{d:Nat}{f:FuncId}{xs:Array Operand}{ats:Array TypeId}{ty:TypeId}{vs:LV}{a1:Array Oper}{done:List Nat}{plan:List Stp}{a0:List PE}{i:Nat}{a:Value}{M:LH}(c:Tri P f vs.toArray L (fun v L'=>v=a∧L' = M))(h:GPK P N a1 done i plan a0 [] ((d,a)::env) M K)(hv:fB env xs.toList=some vs:=by exact rfl)(hd:d<N:=by decide):GPW P N a1 done (.ef i) plan (some d) (.call {callee:=.value (.func f),args:=xs,argTypes:=ats}) ty a0 env L K:=GPW.ef (Ef.j0 c hv) hd (by rintro _ _⟨rfl,rfl⟩;exact h)
structure Hid (ψ:Prop):Prop where
 out:ψ
def aw{φ:Prop}(h:φ:=by kernel_rfl):φ:=h
def ah{φ:Prop}(h:φ:=by decide):φ:=h
def ae{φ:Prop}(h:φ:=by repeat (first|exact Ent.refl _|exact Ent.nil _|refine Ent.o6 ?_|refine Ent.trans Ent.drop ?_)):φ:=h
def an{φ:Prop}(h:φ:=by exact ResOk.tmps rfl):φ:=h
def ab{φ:Prop}(h:φ:=by omega):φ:=h
def aK(i:Nat):((i+1:Nat):Int)=(i:Int)+1:=by omega
def Hx{α:Type}{p:α→Prop}:∀x∈([]:List α),p x:=fun _ h=>absurd h List.not_mem_nil
abbrev av(b:Nat):Value:=.pointer (some ⟨b,0,none⟩)
abbrev ac(x:Int):Value:=.int .i64 x
def gz:type_of% @Array.length_toList:=@Array.length_toList
def ke:type_of% @Bool.and_eq_true:=@Bool.and_eq_true
def fU:type_of% @Bool.false_eq_true:=@Bool.false_eq_true
def jd:type_of% @Int.ediv_nonneg:=@Int.ediv_nonneg
def dL:type_of% @Int.emod_lt_of_pos:=@Int.emod_lt_of_pos
def dD:type_of% @Int.emod_nonneg:=@Int.emod_nonneg
def bj:type_of% @Int.le_refl:=@Int.le_refl
def eQ:type_of% @Int.mul_le_mul:=@Int.mul_le_mul
def bW:type_of% @Int.mul_le_mul_of_nonneg_right:=@Int.mul_le_mul_of_nonneg_right
def dy:type_of% @Int.mul_nonneg:=@Int.mul_nonneg
def fO:type_of% @Int.natCast_mul:=@Int.natCast_mul
def fu:type_of% @Int.sub_zero:=@Int.sub_zero
def gn:type_of% @Int.tdiv_eq_ediv_of_nonneg:=@Int.tdiv_eq_ediv_of_nonneg
def ay:type_of% @Int.toNat_natCast:=@Int.toNat_natCast
def aJ:type_of% @List.append_assoc:=@List.append_assoc
def aY:type_of% @List.append_nil:=@List.append_nil
def ax{α:Type _}{a:α}{b c:List α}:(a::b)++c=a::(b++c):=rfl
def eJ:type_of% @List.drop_eq_getElem_cons:=@List.drop_eq_getElem_cons
def bg:type_of% @List.drop_of_length_le:=@List.drop_of_length_le
def cV:type_of% @List.drop_zero:=@List.drop_zero
def aW:type_of% @List.eq_nil_of_length_eq_zero:=@List.eq_nil_of_length_eq_zero
def fM:type_of% @List.eq_of_mem_replicate:=@List.eq_of_mem_replicate
def du:type_of% @List.ext_getElem:=@List.ext_getElem
def gP:type_of% @List.ext_getElem?:=@List.ext_getElem?
def dK:type_of% @List.filter_append:=@List.filter_append
def gi:type_of% @List.filter_cons:=@List.filter_cons
def cn:type_of% @List.filter_cons_of_neg:=@List.filter_cons_of_neg
def cj:type_of% @List.filter_cons_of_pos:=@List.filter_cons_of_pos
def gy:type_of% @List.filter_sublist:=@List.filter_sublist
def cN:type_of% @List.flatMap_append:=@List.flatMap_append
def bP:type_of% @List.flatMap_cons:=@List.flatMap_cons
def cJ:type_of% @List.foldl_append:=@List.foldl_append
def gx:type_of% @List.foldl_cons:=@List.foldl_cons
def eK:type_of% @List.getElem_drop:=@List.getElem_drop
def eX:type_of% @List.getElem_inj:=@List.getElem_inj
def eW:type_of% @List.getElem_map:=@List.getElem_map
def eV:type_of% @List.getElem_mem:=@List.getElem_mem
def fH:type_of% @List.getElem_set:=@List.getElem_set
def dY:type_of% @List.getElem_take:=@List.getElem_take
def aD:type_of% @List.length_append:=@List.length_append
def bu:type_of% @List.length_cons:=@List.length_cons
def cH:type_of% @List.length_drop:=@List.length_drop
def aA:type_of% @List.length_map:=@List.length_map
def cx:type_of% @List.length_nil:=@List.length_nil
def bE:type_of% @List.length_set:=@List.length_set
def be:type_of% @List.length_singleton:=@List.length_singleton
def bh:type_of% @List.length_take:=@List.length_take
def dh:type_of% @List.lookup_cons:=@List.lookup_cons
def aZ:type_of% @List.map_append:=@List.map_append
def cU:type_of% @List.map_congr_left:=@List.map_congr_left
def bO:type_of% @List.map_cons:=@List.map_cons
def eO:type_of% @List.map_map:=@List.map_map
def gw:type_of% @List.map_nil:=@List.map_nil
def cA:type_of% @List.mem_append_left:=@List.mem_append_left
def cW:type_of% @List.mem_append_right:=@List.mem_append_right
def bz:type_of% @List.mem_cons:=@List.mem_cons
def aq:type_of% @List.mem_cons_of_mem:=@List.mem_cons_of_mem
def au:type_of% @List.mem_cons_self:=@List.mem_cons_self
def alStd0List_mem_map_of_mem:type_of% @List.mem_map_of_mem:=@List.mem_map_of_mem
def cL:type_of% @List.mem_of_mem_take:=@List.mem_of_mem_take
def co:type_of% @List.mem_or_eq_of_mem_set:=@List.mem_or_eq_of_mem_set
def ap{α:Type _}{b:List α}:[]++b=b:=rfl
def gO:type_of% @List.nodup_append:=@List.nodup_append
def dQ:type_of% @List.nodup_cons:=@List.nodup_cons
def aV:type_of% @List.not_mem_nil:=@List.not_mem_nil
def cI:type_of% @List.pairwise_singleton:=@List.pairwise_singleton
def dR:type_of% @List.perm_append_singleton:=@List.perm_append_singleton
def fG:type_of% @List.perm_middle:=@List.perm_middle
def ew:type_of% @List.range_succ:=@List.range_succ
def ft:type_of% @List.take_append_drop:=@List.take_append_drop
def bD:type_of% @List.take_length:=@List.take_length
def aF:type_of% @List.take_of_length_le:=@List.take_of_length_le
def aC:type_of% @List.take_succ_eq_append_getElem:=@List.take_succ_eq_append_getElem
def cd:type_of% @List.take_zero:=@List.take_zero
def dG:type_of% @Nat.add_assoc:=@Nat.add_assoc
def gc:type_of% @Nat.add_mul:=@Nat.add_mul
def fh:type_of% @Nat.div_add_mod:=@Nat.div_add_mod
def fq:type_of% @Nat.div_lt_iff_lt_mul:=@Nat.div_lt_iff_lt_mul
def dT:type_of% @Nat.le_add_right:=@Nat.le_add_right
def az:type_of% @Nat.le_of_ble_eq_true:=@Nat.le_of_ble_eq_true
def aB:type_of% @Nat.le_refl:=@Nat.le_refl
def ga:type_of% @Nat.le_succ:=@Nat.le_succ
def cg:type_of% @Nat.le_trans:=@Nat.le_trans
def ce:type_of% @Nat.lt_or_ge:=@Nat.lt_or_ge
def dJ:type_of% @Nat.mod_lt:=@Nat.mod_lt
def iq:type_of% @Nat.mul_add:=@Nat.mul_add
def gR:type_of% @Nat.mul_assoc:=@Nat.mul_assoc
def ej:type_of% @Nat.mul_comm:=@Nat.mul_comm
def dw:type_of% @Nat.mul_le_mul_right:=@Nat.mul_le_mul_right
def bJ:type_of% @Nat.not_lt_zero:=@Nat.not_lt_zero
def dg:type_of% @Nat.zero_add:=@Nat.zero_add
def aj:type_of% @Nat.zero_le:=@Nat.zero_le
def fF:type_of% @Option.getD_none:=@Option.getD_none
def fN:type_of% @Option.map_none:=@Option.map_none
def gu:type_of% @Option.map_some:=@Option.map_some
def ai{φ:Prop}(h:φ:=by repeat (first|exact EnvSub.nil _|refine EnvSub.cons rfl ?_)):φ:=h
def xf{φ:Prop}(h:φ:=by first|((with_reducible apply Ev.A4);exact Ev.move rfl)|((with_reducible apply Ev.v6);exact Ev.assign rfl)|((with_reducible apply Ev.A3);first|exact Ev.r6 rfl rfl|exact Ev.q8 rfl rfl)|((with_reducible apply Ev.t6);exact Ev.extract rfl rfl)|((with_reducible apply Ev.B3);exact Ev.nilCheck rfl)|((with_reducible apply Ev.u9);exact Ev.r7 rfl rfl ab ab)|((with_reducible apply Ev.B4);first|exact Ev.eql rfl rfl|exact Ev.neq rfl rfl|exact Ev.lss rfl rfl|exact Ev.leq rfl rfl|exact Ev.gtr rfl rfl|exact Ev.geq rfl rfl|exact Ev.add rfl rfl ab ab|exact Ev.sub rfl rfl ab ab|exact Ev.mul rfl rfl ab ab|exact Ev.quo rfl rfl ab ab ab|exact Ev.B8 rfl rfl ab ab ab|exact Ev.rem rfl rfl ab ab|exact Ev.B7 rfl rfl ab|exact Ev.A1 rfl rfl|exact Ev.z6 rfl rfl|exact Ev.u7 rfl rfl|exact Ev.A8 rfl rfl|exact Ev.C2 rfl rfl|exact Ev.C1 rfl rfl|exact Ev.A0 rfl rfl|exact Ev.y9 rfl rfl|exact Ev.B2 rfl rfl (by rfl) (by rfl)|exact Ev.q6 rfl rfl (by rfl) (by rfl))|((with_reducible apply Ev.C3);first|exact Ev.B9 rfl|exact Ev.C0 rfl|exact Ev.not rfl|exact Ev.t7 rfl|exact Ev.neg rfl ab ab)|((with_reducible apply Ev.x7);first|exact Ev.build rfl rfl|exact Ev.A2 rfl rfl)|((with_reducible apply Ev.A5);exact Ev.makeFunc rfl rfl)|((with_reducible apply Ev.v8);first|exact Ev.v7 rfl rfl ab ab|exact Ev.q9 rfl rfl ab ab|exact Ev.u6 rfl rfl rfl ab ab ab|exact Ev.t8 rfl rfl rfl ab ab ab)|((with_reducible apply Ev.A6);first|exact Ev.B1 rfl|exact Ev.z8 rfl|exact Ev.min2 rfl rfl|exact Ev.max2 rfl rfl)|((with_reducible apply Ev.m7);first|exact Ev.fieldAddr rfl|exact Ev.j0 rfl (by first|omega|exact az rfl)|exact Ev.l5 rfl)|((with_reducible apply Ev.o6);first|exact Ev.m5 rfl ab ab|exact Ev.o0 rfl ab ab|exact Ev.l8 rfl ab ab|exact Ev.conv rfl|exact Ev.l9 rfl (by first|rfl|omega|(simp;first|done|omega)))):φ:=h
def xe{φ:Prop}(h:φ:=by first|((with_reducible apply Ev.r9);first|exact Ev.d9 rfl rfl|exact Ev.e9 rfl (by first|omega|exact az rfl) ah rfl|exact Ev.d8 rfl (by rfl)|exact Ev.e7 rfl (by first|omega|exact az rfl)|exact Ev.e8 rfl rfl)|((with_reducible apply Ev.l0);first|exact Ev.indexAddr rfl rfl ab (by first|omega|exact az rfl) (by first|omega|exact az rfl)|exact Ev.n9 rfl rfl ab ab|exact Ev.o7 rfl rfl (by first|omega|exact az rfl) ab ab)|((with_reducible apply Ev.m7);first|exact Ev.fieldAddr rfl|exact Ev.j0 rfl (by first|omega|exact az rfl)|exact Ev.l5 rfl)|((with_reducible apply Ev.o6);first|exact Ev.m5 rfl ab ab|exact Ev.o0 rfl ab ab|exact Ev.l8 rfl ab ab|exact Ev.conv rfl|exact Ev.l9 rfl (by first|rfl|omega|(simp;first|done|omega)))):φ:=h
def xd{φ:Prop}(h:φ:=by first|((with_reducible apply Ev.r9);first|exact Ev.d9 rfl rfl|exact Ev.e9 rfl (by first|omega|exact az rfl) ah rfl|exact Ev.d8 rfl (by rfl)|exact Ev.e7 rfl (by first|omega|exact az rfl)|exact Ev.e8 rfl rfl)|((with_reducible apply Ev.l0);first|exact Ev.indexAddr rfl rfl ab (by first|omega|exact az rfl) (by first|omega|exact az rfl)|exact Ev.g9 rfl rfl ab ab|exact Ev.n9 rfl rfl ab ab|exact Ev.o7 rfl rfl (by first|omega|exact az rfl) ab ab)|((with_reducible apply Ev.m7);first|exact Ev.fieldAddr rfl|exact Ev.j0 rfl (by first|omega|exact az rfl)|exact Ev.l5 rfl)|((with_reducible apply Ev.o6);first|exact Ev.m5 rfl ab ab|exact Ev.o0 rfl ab ab|exact Ev.l8 rfl ab ab|exact Ev.conv rfl|exact Ev.l9 rfl (by first|rfl|omega|(simp;first|done|omega)))):φ:=h
def xg{φ:Prop}(h:φ:=by first|exact xd|exact xf):φ:=h
def Hy{φ ψ:Prop}(k:ψ)(h:Hid ψ→φ:=by intro k;(repeat1' (first|((with_reducible apply GO.d8);first|refine GO.ev xg ah ?_|refine GO.efB (Ef.l7 rfl) ah ?_|refine GO.efB (Ef.l8 rfl rfl) ah ?_|refine GO.efB (Ef.alloc) ah ?_|refine GO.efB (Ef.lit rfl rfl ah rfl) ah ?_)|((with_reducible apply GO.e9);first|refine GO.g7 rfl rfl ah ?_|refine GO.g8 rfl rfl ah ?_|refine GO.e7 rfl rfl ah ?_)|with_reducible apply GO.nil|((with_reducible apply GO.g9);first|refine GO.d7 (Ef.l6 rfl rfl (by first|omega|exact az rfl)) ?_|refine GO.d7 (Ef.l5 rfl rfl rfl rfl) ?_|refine GO.d7 (Ef.f7 rfl rfl (by rfl) (by rfl) (by first|exact EncC.one _|simp[Value.oneCell'])) ?_|refine GO.d7 (Ef.l0 rfl rfl (by rfl) rfl (by first|exact EncC.one _|simp[Value.oneCell'])) ?_)|((with_reducible apply GP.f7);first|refine GP.go rfl ?_|refine GP.e8 rfl rfl rfl ah ?_|refine GP.e9 rfl rfl rfl ah ?_|refine GP.e7 rfl rfl rfl ah ?_)|((with_reducible apply GPW.d9);first|refine GPW.evP xf ah ?_|refine GPW.evL xe ah ?_|refine GPW.evP (by((with_reducible apply Ev.l0);exact Ev.g9 rfl rfl ab ab)) ah ?_)|with_reducible apply GP.nil|((with_reducible apply GPW.e7);first|refine GPW.efB (Ef.l7 rfl) ah ?_|refine GPW.efB (Ef.l8 rfl rfl) ah ?_|refine GPW.efB (Ef.alloc) ah ?_|refine GPW.efB (Ef.lit rfl rfl ah rfl) ah ?_)|((with_reducible apply GPW.d8);first|refine GPW.d7 (Ef.l6 rfl rfl (by first|omega|exact az rfl)) ?_|refine GPW.d7 (Ef.l5 rfl rfl rfl rfl) ?_|refine GPW.d7 (Ef.f7 rfl rfl (by rfl) (by rfl) (by first|exact EncC.one _|simp[Value.oneCell'])) ?_|refine GPW.d7 (Ef.l0 rfl rfl (by rfl) rfl (by first|exact EncC.one _|simp[Value.oneCell'])) ?_)|with_reducible apply GPK.nil|with_reducible apply CB.tt|with_reducible apply CB.ff|with_reducible refine CB.pos ab ?_|with_reducible refine CB.neg ab ?_|with_reducible refine CB.pos (by simp;first|done|omega) ?_|with_reducible refine CB.neg (by simp;first|done|omega) ?_|with_reducible apply GB.tt|with_reducible apply GB.ff|with_reducible refine GB.pos ab ?_|with_reducible refine GB.neg ab ?_|with_reducible refine GB.pos (by simp;first|done|omega) ?_|with_reducible refine GB.neg (by simp;first|done|omega) ?_|with_reducible refine KX.l7 ?_|with_reducible refine KX.g7 ?_|with_reducible refine KX.j0 ?_|with_reducible refine KX.l5 ?_|with_reducible refine KX.g8 ?_|with_reducible refine KX.g9 ?_|with_reducible refine KX.e8 ?_|with_reducible refine KX.f7 ah ?_|with_reducible apply G.block|with_reducible apply G.region|with_reducible apply G.skip|with_reducible apply G.exit|with_reducible apply G.ret|refine G.cond rfl ?_));exact Hid.out k):φ:=h ⟨k⟩
def run{φ ψ:Prop}(k:ψ)(h:Hid ψ→φ:=by intro k;(repeat1' (first|refine Hy ?_|((with_reducible apply GPK.d7);first|refine GPK.drop rfl ?_|refine GPK.keep xd ?_)|with_reducible apply G.seq));exact Hid.out k):φ:=h ⟨k⟩
end
section
open Go.ChangeShapes Go.WideShapes Go.ChangeAt Go.RowKit
def vt(w:World):HP:=fun ι _=>Hp.sub (gX w) ι
def Stars.snoc{L:LH}{ι h:Hp}{p:HP}(s:Stars L ι h)(hp:p ι Hp.emp):Stars (L++[p]) ι h:=by
 induction L generalizing h with
 | nil=>exact⟨ι,Hp.emp,h,Hp.sub.refl _,Hp.d8 _,Hp.d7 _,Hp.sub.refl _,hp,trivial⟩
 | cons q L ih =>
  obtain⟨ι₀,h₁,h₂,a,b,c,d,e,f⟩:=s;exact⟨ι₀,h₁,h₂,a,b,c,d,e,ih f⟩
def Tri.law{P:Program}{f:FuncId}{args:Array Value}{L:LH}{v:Value}{post:LH→Prop}(h:Tri P f args L (fun u L'=>u=v∧post L'))(w:World)(hs:Stars L (gX w) Hp.emp) :
  Calls P f args w fun e w'=>e=.returned v∧Below w.heap.size w w':=by
 have s0:Sat ⟨w.tape,w.os,w.output,w.drawn⟩ (L++[vt w]) w:=⟨⟨rfl,rfl,rfl,aB _⟩,gX w,Hp.emp,fun _ _ _=>rfl,Hp.sub.refl _,Hp.d7 _,hs.snoc (Hp.sub.refl _)⟩;refine(h.calls _ _ w s0).mono ?_;rintro e w' ⟨u,L',rfl,⟨rfl,_⟩,s1⟩;refine⟨rfl,?_⟩;have s2:Sat ⟨w.tape,w.os,w.output,w.drawn⟩ (vt w::L') w':=s1.perm (dR _ _);obtain⟨ok,ι,h,a,b1,c,ι₀,h₁,h₂,d1,d2,d3,d4,d5,d6⟩:=s2;have hk:∀k o,w.heap[k]? = some o→w'.heap[k]? = some o:=fun k o hx=>b1 k o (d1 k o (d5 k o hx));refine⟨ok.os,ok.tape,ok.output,?_,fun k a0=>?_⟩
 ·rcases ce w'.heap.size w.heap.size with a2|a1
  ·have h1:=hk w'.heap.size _ (Array.getElem?_eq_getElem a2);rw[Array.getElem?_eq_none (aB _)] at h1;cases h1
  ·exact a1
 ·rw[Array.getElem?_eq_getElem a0];exact hk k _ (Array.getElem?_eq_getElem a0)
def AT{H:Type}{enc:TypeId×Value→H}{P:Program}{f:Func}{s:ChangeSpec}{apart fresh a1:Bool}{W W' : World}{args:Array Value}{v:Value}{ds gs:List (DataW H)}{a0 pa pv:List MemPlace}
  (hW:DataW.Whole enc P f.params.toList s.vars apart W args.toList ds gs a0)
  (a4:∀(b:Nat) (sp:Nat→Bool) (hd:Bool),DataW.TrodAll enc P W' b sp hd f.resultTypes.toList (v.resultList f.resultTypes.size) (s.fn H (ds++gs)).results [])
  (a3:DataW.TrodAll enc P W' 0 (fun b=>decide (b<W.heap.size)) true f.params.toList args.toList (s.fn H (ds++gs)).args pa)
  (a2:DataW.TrodVars enc P W' (fun b=>decide (b<W.heap.size)) s.vars (s.fn H (ds++gs)).vars pv)
  (a5:a0=pa++pv) (hb:Below W.heap.size W W') :
  s.post enc P f apart fresh a1 false W args v W':=by
 refine⟨ds,gs,a0,[],pa,pv,hW,a4 _ _ _,a3,a2,World.keptBut_mono (fun p hp=>⟨hp,?_⟩) (hb.frame (·∈a0)),fun h=>by cases h⟩;rw[a5,List.mem_append] at hp;exact Or.inr hp
def wJ{w:World}{k:IntKind}{b off len:Nat}{zs:List Int}(hc:∀i,i<zs.length→w.cell? ⟨b,off+i,none⟩=some (.int k (zs.getD i 0)))(hl:len≤zs.length):isl (encZ k) 1 (some ⟨b,off,none⟩) (zs.take len) (gX w) Hp.emp:=by
 refine⟨fun _ _=>rfl,?_⟩;rcases Nat.eq_zero_or_pos (zs.take len).length with h0|a0
 ·exact .inl (aW h0)
 right;have hz:0<zs.length:=by simp at a0;omega
 have h0:=hc 0 hz;cases hb:w.heap[b]? with
 | none=>simp[World.cell?,hb] at h0
 | some o =>
  cases o with
  | cells cur E fz =>
   refine⟨b,off,cur,E,fz,rfl,hb,fun i v hv=>?_⟩;rw[mZ] at hv
   have hi:i<(zs.take len).length:=by
    rcases ce i (zs.take len).length with h|h
    ·exact h
    ·rw[List.getElem?_eq_none (by simpa using h)] at hv;cases hv
   have h1:=hc i (by simp at hi;omega);rw[eu hb] at h1;rw[h1,←hv];simp only[bh] at hi;simp[show i<len by omega,List.getD,List.getElem?_eq_getElem (show i<zs.length by omega)]
  | _=>simp[World.cell?,hb] at h0
def Stars.push{L:LH}{ι:Hp}{p:HP}(hp:p ι Hp.emp)(s:Stars L ι Hp.emp):Stars (p::L) ι Hp.emp:=⟨ι,Hp.emp,Hp.emp,Hp.sub.refl _,Hp.d8 _,Hp.d7 _,Hp.sub.refl _,hp,s⟩
abbrev oX(W:World)(b:Nat):Option Obj:=W.heap[b]?
def tq{H:Type}{enc:TypeId×Value→H}{P:Program}{W:World}{t e:TypeId}{k:IntKind}{ad:OA}{len cap:Nat}{d:DataW H}{p:List MemPlace}(ht:P.underlying t=some (.slice e))(he:P.underlying e=some (.int k))(hc:P.cellsOf e=1)
  (h:DataW.Trod enc P W 0 (fun _=>true) true t (.slice ad len cap) d p):∃xs:List Int,isl (encZ k) 1 ad xs (gX W) Hp.emp∧len=xs.length∧(len≤cap∧cap≤maxLen)∧∀x∈xs,(Lit.int k x).wf=true:=by
 obtain⟨fuel,hf⟩:=h;rcases open_ints ht he hc hf with⟨a1,hx⟩|⟨a,a4,a6,zs,a1,_,hl,hm,hz,hx,a0,a5⟩
 ·simp[Value.cells] at a1;obtain⟨rfl,rfl,rfl⟩:=a1;exact⟨[],⟨by simp,.inl rfl⟩,rfl,⟨by simp,by simp⟩,by simp⟩
 ·simp[Value.cells] at a1;obtain⟨rfl,rfl,rfl⟩:=a1;simp only[if_true] at hz;refine⟨zs.take len,?_,by simp[bh];omega,⟨hl,hm⟩,fun x hx=>a5 x (cL hx)⟩;rcases Nat.eq_zero_or_pos zs.length with h0|a3
  ·have:zs=[]:=aW h0;subst this;exact⟨by simp,.inl (by simp)⟩
  ·have h1:=a0 0 a3;obtain⟨b,off,a2⟩:=a
   have hs:a2=none:=by
    rw[vl] at h1;unfold World.cell? at h1;cases hb:oX W b with
    | none=>simp[oX] at hb;simp[hb] at h1
    | some o =>
     simp only[oX] at hb;simp only[hb] at h1;cases o with
     | cells c E fz=>cases a2 with
      | none=>rfl
      | some x=>simp at h1
     | _=>simp at h1
   subst hs;exact wJ (fun i hi=>by rw[←jy];exact a0 i hi) ab
def nz{a:Int}(h:(Lit.int .i64 a).wf=true) : -9223372036854775808≤a∧a≤9223372036854775807:=by
 simp[Lit.wf,IntKind.min,IntKind.max,IntKind.signed,IntKind.bits] at h;omega
end
section
structure SlV where
 ad:OA
 n:Nat
 cap:Nat
 deriving Inhabited
def qi(s:SlV):LV:=[.slice s.ad s.n s.cap]
def upd{α:Type}(f:Int→α)(k:Int)(v:α):Int→α:=fun j=>if j=k then v else f j
def pr{α:Type}(f:Int→α):List α:=[f 0,f 1]
section
variable {P:Program}{env:Env}{L:LH}{ty:TypeId}
structure IsMapClone (P:Program) (f:FuncId):Prop where
 run:∀args w,(callFunc f args).run P w=((Extern.MapsClone.clone args).run P w).andThen fun v w'=>.ok (.value v) w'
