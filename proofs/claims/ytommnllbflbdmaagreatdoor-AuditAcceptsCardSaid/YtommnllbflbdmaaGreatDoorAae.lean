/- Lemmas. -/
import Derived.Test.YtommnllbflbdmaaGreatDoorAad
import Derived.Laws.BytesArg
import Derived.Laws.Strings
import Derived.Laws.MakeOwn
import Derived.ProofKit
import Derived.Carry
import Derived.ChangeSlices
import Derived.ChangeSame
import Derived.OpenShut
import Derived.Laws.Externs
import Derived.MapKept
set_option linter.all false
namespace Go.V
section
class TyBool (P:Program) (T:Nat):Prop where
 under:P.underlying T=some .bool
section
variable {P:Program}{env:Env}{L:LH}{ty:TypeId}
def pE{t:TypeId}{a b:Bool}{w:World}{n:Nat}(he:P.underlying t=some .bool):(Op.equalIn (n+1) t (.bool a) (.bool b)).run P w=.ok (a == b) w:=by
 simp[Op.equalIn,run_underlying he]
def Ev.B4{t yt:TypeId}{x y:Operand}{φ ψ:Prop}[Decidable φ][Decidable ψ][ht:TyBool P t](hx:evE env x=some (.bool (dB φ)))(hy:evE env y=some (.bool (dB ψ))):Ev P L env (.binOp .neq t x y yt) ty (.bool (dB (¬(φ↔ψ)))) :=
 Ev.mk (fun _ _ _ w ea _ _ _ _ _=>by
  have h1:=kU (P:=P) (w:=w) (fun n=>pE (n:=n) (a:=dB φ) (b:=dB ψ) ht.under)
  have h2:(!(dB φ == dB ψ))=dB (¬(φ↔ψ)):=by
   rw[fE,fE,fE];by_cases h:φ<;>by_cases h' : ψ<;>simp[h,h']
  simp[execOp,aP ea hx,aP ea hy,eqGuard,binOp,h1,h2])
def Ev.B5{t yt:TypeId}{x y:Operand}{φ ψ:Prop}[Decidable φ][Decidable ψ][ht:TyBool P t](hx:evE env x=some (.bool (dB φ)))(hy:evE env y=some (.bool (dB ψ))):Ev P L env (.binOp .eql t x y yt) ty (.bool (dB (φ↔ψ))) :=
 Ev.mk (fun _ _ _ w ea _ _ _ _ _=>by
  have h1:=kU (P:=P) (w:=w) (fun n=>pE (n:=n) (a:=dB φ) (b:=dB ψ) ht.under)
  have h2:(dB φ == dB ψ)=dB (φ↔ψ):=by
   rw[fE,fE,fE];by_cases h:φ<;>by_cases h' : ψ<;>simp[h,h']
  simp[execOp,aP ea hx,aP ea hy,eqGuard,binOp,h1,h2])
def yJ(a b:ByteArray):(a.toList == b.toList)=decide (a=b):=by
 rw[ByteArray.toList_eq,ByteArray.toList_eq];cases a with|mk a=>cases b with|mk b =>
 by_cases h:a=b
 ·subst h;simp
 ·simp[h]
def Ev.y8{t yt:TypeId}{x y:Operand}{a b:ByteArray}(hx:evE env x=some (.string a))(hy:evE env y=some (.string b)):Ev P L env (.binOp .eql t x y yt) ty (.bool (dB (a=b))) :=
 Ev.mk (fun _ _ _ w ea _ _ _ _ _=>by
  simp[execOp,aP ea hx,aP ea hy,eqGuard,binOp,Op.stringOp,fE,yJ])
def Ev.x8{t yt:TypeId}{x y:Operand}{a b:ByteArray}(hx:evE env x=some (.string a))(hy:evE env y=some (.string b)):Ev P L env (.binOp .neq t x y yt) ty (.bool (dB (¬a=b))) :=
 Ev.mk (fun _ _ _ w ea _ _ _ _ _=>by
  simp[execOp,aP ea hx,aP ea hy,eqGuard,binOp,Op.stringOp,fE,yJ])
def nA(xs:List Int)(k:IntKind):xs.flatMap (encZ k)=xs.map (Value.int k):=nS _ xs
def Ev.m6{s t:TypeId}{x:Operand}{ad:OA}{n c E sz bb:Nat}{z:LV}{xs:List Int}[hs:TySl P s E sz bb z][he:TyInt P E .u8][ht:TyStr P t][hr:Rds L ad Int (encZ .u8) 1 xs](hx:evE env x=some (.slice ad n c))(hn:n=xs.length) :
  Ev P L env (.convert s t x) ty (.string (strOfNums xs)) :=
 Ev.mk (fun θ R _ w ea st _ _ _ _=>by
  subst hn;obtain⟨h1,h2⟩:=hr.rd θ R w st
  have hc:(convert s t (.slice ad xs.length c)).run P w=.ok (.string (strOfNums xs)) w:=by
   rw[run_convert_bytes_string w s t E ad xs.length c hs.under he.under ht.under];rcases h2 with rfl|⟨a,rfl,h3⟩
   ·cases ad with
    | none=>simp[Conv.bytesToString,strOfNums];rfl
    | some a =>
     have hl:(loadCells a 0).run P w=.ok (([]:List Int).map (Value.int .u8)).toArray w:=by simp[loadCells,loadCellsFrom]
     exact(run_bytesToString w a 0 c [] hl).trans (by simp[strOfNums];rfl)
   ·rw[nA] at h3;have hl:=run_loadCells_list (P:=P) w a (xs.map (Value.int .u8)) h3;rw[List.length_map] at hl;rw[run_bytesToString w a xs.length c xs hl,foldl_push_bytes];simp[strOfNums,ByteArray.empty,ByteArray.emptyWithCapacity];rfl
  simp[execOp,aP ea hx,hc])
def tB{α:Type}[Inhabited α](f:Nat→α)(x:α)(n:Nat)(h:∀i,i<n→f i=x):(Array.range n).map f=(List.replicate n x).toArray:=by
 apply Array.ext
 ·simp
 ·intro i h1 h2;simp at h1 ⊢;exact h i h1
def Ef.makeSlice{t:TypeId}{x y:Operand}{E bb:Nat}{z0:Value}{α:Type}(enc:α→LV)(e:α){n:Int}[ht:TySl P t E 1 bb [z0]](hx:evE env x=some (.int .i64 n))(hy:evE env y=some (.int .i64 n))(he:enc e=[z0])(h0:0≤n)(h1:n*bb≤16777216)(h2:n≤1000000000) :
  Ef P L env (.makeSlice t x y) ty (fun v L'=>∃b,v=.slice (some ⟨b,0,none⟩) n.toNat n.toNat∧L' = osl enc 1 E (some ⟨b,0,none⟩) n.toNat (List.replicate n.toNat e)::L) :=
 Ef.val (fun θ R a w ea s a0 pos af g=>⟨.slice (some ⟨w.heap.size,0,none⟩) n.toNat n.toNat,w.alloc (.cells (List.replicate n.toNat z0).toArray E),_,by
  obtain⟨ii,zz,i1,i2,i3,i4,i5⟩:=ht.parts
  have hz:zz.cells=#[z0]:=by
   have:=i3
   apply Array.ext';simpa using this
  have hm:madeCells zz.cells (n.toNat*ii.size)=(List.replicate n.toNat z0).toArray:=by
   rw[hz,i4,Nat.mul_one];exact tB _ _ _ (fun i _=>by simp[Nat.mod_one])
  have hk:=run_make (P:=P) w t E ii zz ht.under i1 i2 .i64 .i64 n n h0 (Int.le_refl _) (by rw[i5,Int.mul_comm];omega) (by omega);rw[hm] at hk
  simp[execOp,aP ea hx,aP ea hy,hk],⟨_,rfl,rfl⟩,by
   have s1:=s.alloc (o:=.cells (List.replicate n.toNat z0).toArray E);refine Sat.osl_mk (enc:=enc) (sz:=1) (cap:=n.toNat) (xs:=List.replicate n.toNat e) (L:=L++R) s1 ?_ (by simp) (by simp only[maxLen];omega) (by simp) ?_
   ·intro x hx;rw[List.eq_of_mem_replicate hx,he];rfl
   ·have:∀k,(List.replicate k e).flatMap enc=List.replicate k z0:=by
     intro k;induction k with
     | zero=>rfl
     | succ k ih=>rw[List.replicate_succ,List.flatMap_cons,ih,he];rfl
    rw[this];simp⟩)
def Ef.ent{op:Op}{L' : LH}{post:Value→LH→Prop}(h:Ent L L')(k:Ef P L' env op ty post):Ef P L env op ty post:=fun θ R a w o next Q ha s h1 h2 hn=>k θ R a w o next Q ha (h θ R w s) h1 h2 hn
def yh{α:Type}[Inhabited α]{enc:α→LV}{sz o:Nat}{e:α}{v:Value}:∀{xs:List α} {j:Nat},(∀x∈xs,(enc x).length=sz)→j<xs.length→o<sz→enc e=(enc xs[j]!).set o v→(xs.set j e).flatMap enc=(xs.flatMap enc).set (j*sz+o) v
 | [],j,_,hj,_,_=>by simp at hj
 | x::xs,0,h,_,ho,he=>by
  have hx:=h x (by simp);simp only[List.set_cons_zero,List.flatMap_cons,Nat.zero_mul,Nat.zero_add];rw[List.set_append,if_pos (by omega),he];simp
 | x::xs,j+1,h,hj,ho,he=>by
  have hx:=h x (by simp);simp only[List.set_cons_succ,List.flatMap_cons];have e1:¬((j+1)*sz+o<(enc x).length):=by rw[hx,Nat.succ_mul];omega
  rw[List.set_append,if_neg e1];have e2:(j+1)*sz+o - (enc x).length=j*sz+o:=by rw[hx,Nat.succ_mul];omega
  rw[e2,yh (fun y hy=>h y (by simp[hy])) (by simpa using hj) ho (by simpa using he)]
def Ef.g9{t:TypeId}{x y:Operand}{ad:OA}{sz j o E cap:Nat}{α:Type}[Inhabited α]{enc:α→LV}{xs:List α}{Rest:LH}{v:Value}(e:α)[ht:TyOne P t][hp:PickOsl L ad α enc sz E cap xs Rest]
  (hx:evE env x=some (.pointer (elP ad sz j o))) (hy:evE env y=some v) (he:enc e=(enc xs[j]!).set o v) (h1:v.oneCell' = true) (hj:j<xs.length) (ho:o<sz) :
  Ef P L env (.store t x y) ty (fun _ L'=>L' = osl enc sz E ad cap (xs.set j e)::Rest) :=
 Ef.skip (fun θ R ρ w ea s a9 pos af g=>by
  have s1:=s.perm (hp.perm.append_right R);obtain⟨p1,p2,p3,p4⟩:=Sat.osl_parts s1;rcases p4 with⟨rfl,rfl⟩|⟨gb,a1,rfl,f1,f2,f3⟩
  ·omega
  ·have hb:w.heap[gb]? = some (.cells a1 E (0,0)):=f3.own_heap
   have a5:j*sz+o<xs.length*sz:=by
    have:(j+1)*sz≤xs.length*sz:=Nat.mul_le_mul_right _ hj
    rw[Nat.succ_mul] at this;omega
   have a2:j*sz+o<a1.size:=by
    have:=Nat.mul_le_mul_right sz p2
    omega
   have a8:∀y∈xs.set j e,(enc y).length=sz:=by
    intro y a7;rcases List.mem_or_eq_of_mem_set a7 with h|h
    ·exact p1 y h
    ·subst h;rw[he,List.length_set];exact p1 _ (by rw[List.getElem!_eq_getElem?_getD,List.getElem?_eq_getElem hj];exact List.getElem_mem _)
   have a0:w.cell? ⟨gb,j*sz+o,none⟩=some a1[j*sz+o]:=by rw[fk hb];simp[a2]
   have a3:w.frozen? ⟨gb,j*sz+o,none⟩=false:=by simp[World.frozen?,hb]
   have a4:v.cells=#[v]:=by cases v<;>first|rfl|cases h1
   refine⟨w.setCell ⟨gb,j*sz+o,none⟩ v,_,?_,rfl,?_⟩
   ·have a6 : evE env x=some (.pointer (some ⟨gb,j*sz+o,none⟩)):=by rw[hx];simp only[elP,Option.map_some,gJ]
    simp[execOp,aP ea a6,aP ea hy,Instr.storeAt,Instr.sureAddr,storeVar,TyOne.sizeOf_run,a4,storeCells,Addr.add,run_store _ _ _ _ _ h1,a0,a3]
   ·have s3:Sat θ (own gb (.cells (a1.setIfInBounds (j*sz+o) v) E (0,0))::(Rest++R)) (w.setCell ⟨gb,j*sz+o,none⟩ v):=by
     refine Sat.update f3 ⟨s.1.tape,s.1.os,s.1.output,s.1.drawn⟩ ?_ (fun k x hk hx=>by rw[mb v hk];exact hx);rw[mA v hb]
    refine Sat.osl_mk (L:=Rest++R) s3 a8 (by simpa using p2) p3 (by simpa using f1) ?_;rw[yh p1 hj ho he,←f2];simp[List.take_set])
def Ef.l6{t:TypeId}{x y:Operand}{ad:OA}{j E cap:Nat}{k:IntKind}{n:Int}{xs:List Int}{Rest:LH}[ht:TyOne P t][hp:PickOsl L ad Int (encZ k) 1 E cap xs Rest]
  (hx:evE env x=some (.pointer (elP ad 1 j 0))) (hy:evE env y=some (.int k n)) (hj:j<xs.length) :
  Ef P L env (.store t x y) ty (fun _ L'=>L' = osl (encZ k) 1 E ad cap (xs.set j n)::Rest):=Ef.g9 n hx hy rfl rfl hj (by omega)
def Ev.m7{s t:TypeId}{x:Operand}{k:IntKind}{a:Int}[hs:TyInt P s k][ht:TyInt P t .i64](hx:evE env x=some (.int k a))(h0 : -9223372036854775808≤a)(h1:a≤9223372036854775807):Ev P L env (.convert s t x) ty (.int .i64 a):=by
 have:=Ev.conv (P:=P) (L:=L) (ty:=ty) (s:=s) (t:=t) hx
 rwa [IntWalk.i64_in a ⟨h0,h1⟩] at this
def Ev.n9{s t:TypeId}{x:Operand}{k:IntKind}{a:Int}[hs:TyInt P s k][ht:TyInt P t .u8](hx:evE env x=some (.int k a))(h0:0≤a)(h1:a≤255):Ev P L env (.convert s t x) ty (.int .u8 a):=by
 have:=Ev.conv (P:=P) (L:=L) (ty:=ty) (s:=s) (t:=t) hx
 rwa [IntWalk.u8_in a ⟨h0,h1⟩] at this
def Ev.m5{s t:TypeId}{x:Operand}{k:IntKind}{a:Int}[hs:TyInt P s k][ht:TyInt P t .u64](hx:evE env x=some (.int k a))(h0:0≤a)(h1:a≤18446744073709551615):Ev P L env (.convert s t x) ty (.int .u64 a):=by
 have:=Ev.conv (P:=P) (L:=L) (ty:=ty) (s:=s) (t:=t) hx
 rwa [IntWalk.u64_in a ⟨h0,h1⟩] at this
end
end
section
section
variable {P:Program}{N:Nat}{env:Env}{L:LH}{K:Post}{ops:Array Oper}{rest:List Oper}{d i:Nat}{op:Op}{ty:TypeId}{pos:String}{af:Array Edge}{X:LH}{f:Nat→Value}{g:Nat→LH}{done:List Nat}{plan:List Stp}{pend:List PE}
def GO.d8(he:Ef P L env op ty (fun _ L'=>L' = X))(h:GO P N ops rest env X K):GO P N ops (⟨none,op,ty,pos,af,none⟩::rest) env L K:=GO.efu he (by rintro _ _ rfl;exact h)
def GO.efB(he:Ef P L env op ty (fun v L'=>∃b,v=f b∧L' = g b))(hd:d<N)(h:∀b,GO P N ops rest ((d,f b)::env) (g b) K):GO P N ops (⟨some d,op,ty,pos,af,none⟩::rest) env L K:=GO.ef he hd (by rintro _ _⟨b,rfl,rfl⟩;exact h b)
def GPW.d7(he:Ef P L env op ty (fun _ L'=>L' = X))(h:GPK P N ops done i plan pend [] env X K):GPW P N ops done (.ef i) plan none op ty pend env L K:=GPW.efu he (by rintro _ _ rfl;exact h)
def GPW.efB(he:Ef P L env op ty (fun v L'=>∃b,v=f b∧L' = g b))(hd:d<N)(h:∀b,GPK P N ops done i plan pend [] ((d,f b)::env) (g b) K):GPW P N ops done (.ef i) plan (some d) op ty pend env L K:=GPW.ef he hd (by rintro _ _⟨b,rfl,rfl⟩;exact h b)
end
class En (P:Program) (f:FuncId) (fn:outParam Func) (N:outParam Nat):Prop where
 en:Enters P f
 hf:P.funcs[f]? = some fn
 hN:fn.ntmps=N
def Tri.bd{P:Program}{f:FuncId}{fn:Func}{c:Code}{args:LV}{L:LH}{post:Value→LH→Prop}{rs:List ResultVar}{N:Nat}[e:En P f fn N](h:G P N c (env0 args 0) L (Ends P N rs post))(hb:fn.body=some c:=by exact rfl)(hr:fn.results=rs.toArray:=by exact rfl)(hn:args.length≤N:=by simp):Tri P f args.toArray L post:=Tri.body N e.en e.hf hb hr e.hN hn h
def KX.en{P:Program}{N:Nat}{env:Env}{L:LH}{rs:List ResultVar}{post:Value→LH→Prop}{vs:LV}{L' : LH}(h3:post (resV vs) L')(h1:ResOk P N env L rs vs:=by exact ResOk.tmps rfl)(h2:Ent L L':=by repeat (first|exact Ent.refl _|exact Ent.nil _|refine Ent.n7 ?_|refine Ent.trans Ent.drop ?_)):Ends P N rs post .ret env L:=KX.d7 h1 h2 h3
def GO.ca{P:Program}{N:Nat}{env:Env}{L:LH}{K:Post}{d:Nat}{f:FuncId}{xs:Array Operand}{ats:Array TypeId}{ty:TypeId}{vs:LV}{post:Value→LH→Prop}{a0:Array Oper}{rest:List Oper}{pos:String}{af:Array Edge}(c:Tri P f vs.toArray L post)(h:∀v L',post v L'→GO P N a0 rest ((d,v)::env) L' K)(hv:gg env xs.toList=some vs:=by exact rfl)(hd:d<N:=by decide):GO P N a0 (⟨some d,.call {callee:=.value (.func f),args:=xs,argTypes:=ats},ty,pos,af,none⟩::rest) env L K:=GO.ef (Ef.f8 c hv) hd h
def GO.cr{P:Program}{N:Nat}{env:Env}{L:LH}{K:Post}{d:Nat}{f:FuncId}{xs:Array Operand}{ats:Array TypeId}{ty:TypeId}{vs:LV}{a0:Array Oper}{rest:List Oper}{pos:String}{af:Array Edge}{a:Value}{M:LH}(c:Tri P f vs.toArray L (fun v L'=>v=a∧L' = M))(h:GO P N a0 rest ((d,a)::env) M K)(hv:gg env xs.toList=some vs:=by exact rfl)(hd:d<N:=by decide):GO P N a0 (⟨some d,.call {callee:=.value (.func f),args:=xs,argTypes:=ats},ty,pos,af,none⟩::rest) env L K:=GO.ef (Ef.f8 c hv) hd (by rintro _ _⟨rfl,rfl⟩;exact h)
def GPW.ca{P:Program}{N:Nat}{env:Env}{L:LH}{K:Post}{d:Nat}{f:FuncId}{xs:Array Operand}{ats:Array TypeId}{ty:TypeId}{vs:LV}{post:Value→LH→Prop}{a1:Array Oper}{done:List Nat}{plan:List Stp}{a0:List PE}{i:Nat}(c:Tri P f vs.toArray L post)(h:∀v L',post v L'→GPK P N a1 done i plan a0 [] ((d,v)::env) L' K)(hv:gg env xs.toList=some vs:=by exact rfl)(hd:d<N:=by decide):GPW P N a1 done (.ef i) plan (some d) (.call {callee:=.value (.func f),args:=xs,argTypes:=ats}) ty a0 env L K:=GPW.ef (Ef.f8 c hv) hd h
def GPW.cr{P:Program}{N:Nat}{env:Env}{L:LH}{K:Post}{d:Nat}{f:FuncId}{xs:Array Operand}{ats:Array TypeId}{ty:TypeId}{vs:LV}{a1:Array Oper}{done:List Nat}{plan:List Stp}{a0:List PE}{i:Nat}{a:Value}{M:LH}(c:Tri P f vs.toArray L (fun v L'=>v=a∧L' = M))(h:GPK P N a1 done i plan a0 [] ((d,a)::env) M K)(hv:gg env xs.toList=some vs:=by exact rfl)(hd:d<N:=by decide):GPW P N a1 done (.ef i) plan (some d) (.call {callee:=.value (.func f),args:=xs,argTypes:=ats}) ty a0 env L K:=GPW.ef (Ef.f8 c hv) hd (by rintro _ _⟨rfl,rfl⟩;exact h)
def G.dr{P:Program}{env:Env}{L:LH}{K:Post}(N id:Nat){l:List Oper}(plan:List Stp)[hK:NoP K](h:GP P N l.toArray [] plan [] env L K)(hm:P.follows .mixedOrders=true:=by exact mixed)(hp:(jS l.toArray [] plan && (plan.length == l.toArray.size) && Region.noSelect l.toArray && noDefer l.toArray)=true:=by kernel_rfl):G P N (.region id l.toArray true) env L K:=G.l5 plan hm hp h
structure Hid (ψ:Prop):Prop where
 out:ψ
def krStd0{φ:Prop}(h:φ:=by kernel_rfl):φ:=h
def ag{φ:Prop}(h:φ:=by decide):φ:=h
def ae{φ:Prop}(h:φ:=by repeat (first|exact Ent.refl _|exact Ent.nil _|refine Ent.n7 ?_|refine Ent.trans Ent.drop ?_)):φ:=h
def al{φ:Prop}(h:φ:=by exact ResOk.tmps rfl):φ:=h
def bZ{φ:Prop}(h:φ:=by simp):φ:=h
def aK{φ:Prop}(h:φ:=by rfl):φ:=h
def fW{φ:Prop}(h:φ:=by simp;omega):φ:=h
def fm{φ:Prop}(h:φ:=by dsimp only;omega):φ:=h
def cJ{φ:Prop}(h:φ:=by repeat (first|exact Ent.refl _|apply Ent.take)):φ:=h
def ab{φ:Prop}(h:φ:=by omega):φ:=h
def aV(i:Nat):((i+1:Nat):Int)=(i:Int)+1:=by omega
def Jo{α:Type}{p:α→Prop}:∀x∈([]:List α),p x:=fun _ h=>absurd h List.not_mem_nil
abbrev ax(b:Nat):Value:=.pointer (some ⟨b,0,none⟩)
abbrev ac(x:Int):Value:=.int .i64 x
abbrev ah(a:OA)(n c:Nat):Value:=.slice a n c
abbrev aN(l:LV):Value:=.agg l.toArray
def gQ:type_of% @Array.length_toList:=@Array.length_toList
def kB:type_of% @Bool.and_eq_true:=@Bool.and_eq_true
def gz:type_of% @Bool.false_eq_true:=@Bool.false_eq_true
def da:type_of% @Int.add_zero:=@Int.add_zero
def jF:type_of% @Int.ediv_nonneg:=@Int.ediv_nonneg
def dF:type_of% @Int.emod_lt_of_pos:=@Int.emod_lt_of_pos
def dA:type_of% @Int.emod_nonneg:=@Int.emod_nonneg
def bg:type_of% @Int.le_refl:=@Int.le_refl
def fH:type_of% @Int.mul_le_mul:=@Int.mul_le_mul
def bV:type_of% @Int.mul_le_mul_of_nonneg_right:=@Int.mul_le_mul_of_nonneg_right
def dI:type_of% @Int.mul_nonneg:=@Int.mul_nonneg
def gw:type_of% @Int.natCast_mul:=@Int.natCast_mul
def fG:type_of% @Int.sub_zero:=@Int.sub_zero
def aC:type_of% @Int.toNat_natCast:=@Int.toNat_natCast
def aH:type_of% @List.append_assoc:=@List.append_assoc
def aQ:type_of% @List.append_nil:=@List.append_nil
def ao{α:Type _}{a:α}{b c:List α}:(a::b)++c=a::(b++c):=rfl
def eh:type_of% @List.drop_eq_getElem_cons:=@List.drop_eq_getElem_cons
def bC:type_of% @List.drop_of_length_le:=@List.drop_of_length_le
def aX:type_of% @List.eq_nil_of_length_eq_zero:=@List.eq_nil_of_length_eq_zero
def gu:type_of% @List.eq_of_mem_replicate:=@List.eq_of_mem_replicate
def dS:type_of% @List.ext_getElem:=@List.ext_getElem
def io:type_of% @List.ext_getElem?:=@List.ext_getElem?
def du:type_of% @List.filter_append:=@List.filter_append
def gI:type_of% @List.filter_cons:=@List.filter_cons
def cG:type_of% @List.filter_cons_of_neg:=@List.filter_cons_of_neg
def cF:type_of% @List.filter_cons_of_pos:=@List.filter_cons_of_pos
def gP:type_of% @List.filter_sublist:=@List.filter_sublist
def dd:type_of% @List.flatMap_append:=@List.flatMap_append
def bB:type_of% @List.flatMap_cons:=@List.flatMap_cons
def cv:type_of% @List.foldl_append:=@List.foldl_append
def fU:type_of% @List.foldl_cons:=@List.foldl_cons
def fK:type_of% @List.getElem_inj:=@List.getElem_inj
def dR:type_of% @List.getElem_map:=@List.getElem_map
def ed:type_of% @List.getElem_mem:=@List.getElem_mem
def fJ:type_of% @List.getElem_set:=@List.getElem_set
def ay:type_of% @List.length_append:=@List.length_append
def bh:type_of% @List.length_cons:=@List.length_cons
def dQ:type_of% @List.length_drop:=@List.length_drop
def gc:type_of% @List.length_filter_le:=@List.length_filter_le
def aA:type_of% @List.length_map:=@List.length_map
def cQ:type_of% @List.length_nil:=@List.length_nil
def cu:type_of% @List.length_set:=@List.length_set
def aJ:type_of% @List.length_singleton:=@List.length_singleton
def bG:type_of% @List.length_take:=@List.length_take
def dw:type_of% @List.lookup_cons:=@List.lookup_cons
def aW:type_of% @List.map_append:=@List.map_append
def dc:type_of% @List.map_congr_left:=@List.map_congr_left
def bM:type_of% @List.map_cons:=@List.map_cons
def gy:type_of% @List.map_map:=@List.map_map
def ga:type_of% @List.map_nil:=@List.map_nil
def bQ:type_of% @List.mem_append_left:=@List.mem_append_left
def bz:type_of% @List.mem_append_right:=@List.mem_append_right
def bj:type_of% @List.mem_cons:=@List.mem_cons
def au:type_of% @List.mem_cons_of_mem:=@List.mem_cons_of_mem
def aq:type_of% @List.mem_cons_self:=@List.mem_cons_self
def alStd0List_mem_map_of_mem:type_of% @List.mem_map_of_mem:=@List.mem_map_of_mem
def gM:type_of% @List.mem_of_mem_drop:=@List.mem_of_mem_drop
def dv:type_of% @List.mem_of_mem_take:=@List.mem_of_mem_take
def ee:type_of% @List.mem_or_eq_of_mem_set:=@List.mem_or_eq_of_mem_set
def cW:type_of% @List.mem_singleton_self:=@List.mem_singleton_self
def an{α:Type _}{b:List α}:[]++b=b:=rfl
def im:type_of% @List.nodup_append:=@List.nodup_append
def dN:type_of% @List.nodup_cons:=@List.nodup_cons
def aU:type_of% @List.not_mem_nil:=@List.not_mem_nil
def ey:type_of% @List.pairwise_cons:=@List.pairwise_cons
def bE:type_of% @List.pairwise_singleton:=@List.pairwise_singleton
def dW:type_of% @List.perm_append_singleton:=@List.perm_append_singleton
def gm:type_of% @List.perm_middle:=@List.perm_middle
def ft:type_of% @List.range_succ:=@List.range_succ
def ew:type_of% @List.take_append_drop:=@List.take_append_drop
def bu:type_of% @List.take_length:=@List.take_length
def aF:type_of% @List.take_of_length_le:=@List.take_of_length_le
def aD:type_of% @List.take_succ_eq_append_getElem:=@List.take_succ_eq_append_getElem
def bH:type_of% @List.take_zero:=@List.take_zero
def dy:type_of% @Nat.add_assoc:=@Nat.add_assoc
def gB:type_of% @Nat.add_mul:=@Nat.add_mul
def fT:type_of% @Nat.div_add_mod:=@Nat.div_add_mod
def fZ:type_of% @Nat.div_lt_iff_lt_mul:=@Nat.div_lt_iff_lt_mul
def dZ:type_of% @Nat.le_add_right:=@Nat.le_add_right
def az:type_of% @Nat.le_of_ble_eq_true:=@Nat.le_of_ble_eq_true
def aB:type_of% @Nat.le_refl:=@Nat.le_refl
def cK:type_of% @Nat.le_trans:=@Nat.le_trans
def cc:type_of% @Nat.lt_or_ge:=@Nat.lt_or_ge
def dT:type_of% @Nat.mod_lt:=@Nat.mod_lt
def ic:type_of% @Nat.mul_add:=@Nat.mul_add
def ip:type_of% @Nat.mul_assoc:=@Nat.mul_assoc
def fh:type_of% @Nat.mul_comm:=@Nat.mul_comm
def dH:type_of% @Nat.mul_le_mul_right:=@Nat.mul_le_mul_right
def cl:type_of% @Nat.not_lt_zero:=@Nat.not_lt_zero
def dq:type_of% @Nat.zero_add:=@Nat.zero_add
def aw:type_of% @Nat.zero_le:=@Nat.zero_le
def dY:type_of% @Option.getD_none:=@Option.getD_none
def gk:type_of% @Option.getD_some:=@Option.getD_some
def eK:type_of% @Option.map_none:=@Option.map_none
def fq:type_of% @Option.map_some:=@Option.map_some
def av{φ:Prop}(h:φ:=by repeat (first|exact EnvSub.nil _|refine EnvSub.cons rfl ?_)):φ:=h
def yo{φ:Prop}(h:φ:=by first|((with_reducible apply Ev.z8);exact Ev.move rfl)|((with_reducible apply Ev.u6);exact Ev.assign rfl)|((with_reducible apply Ev.z7);first|exact Ev.q9 rfl rfl|exact Ev.q7 rfl rfl)|((with_reducible apply Ev.r7);exact Ev.extract rfl rfl)|((with_reducible apply Ev.A6);exact Ev.nilCheck rfl)|((with_reducible apply Ev.t8);exact Ev.r4 rfl rfl ab ab)|((with_reducible apply Ev.A7);first|exact Ev.eql rfl rfl|exact Ev.neq rfl rfl|exact Ev.lss rfl rfl|exact Ev.leq rfl rfl|exact Ev.gtr rfl rfl|exact Ev.geq rfl rfl|exact Ev.add rfl rfl ab ab|exact Ev.sub rfl rfl ab ab|exact Ev.mul rfl rfl ab ab|exact Ev.quo rfl rfl ab ab ab|exact Ev.B1 rfl rfl ab ab ab|exact Ev.rem rfl rfl ab ab|exact Ev.B0 rfl rfl ab|exact Ev.y9 rfl rfl|exact Ev.x9 rfl rfl|exact Ev.t7 rfl rfl|exact Ev.A3 rfl rfl|exact Ev.B5 rfl rfl|exact Ev.B4 rfl rfl|exact Ev.y8 rfl rfl|exact Ev.x8 rfl rfl|exact Ev.A5 rfl rfl aK aK|exact Ev.o9 rfl rfl aK aK)|((with_reducible apply Ev.B6);first|exact Ev.B2 rfl|exact Ev.B3 rfl|exact Ev.not rfl|exact Ev.r8 rfl|exact Ev.neg rfl ab ab)|((with_reducible apply Ev.v2);first|exact Ev.build rfl rfl|exact Ev.z6 rfl rfl)|((with_reducible apply Ev.A0);exact Ev.makeFunc rfl rfl)|((with_reducible apply Ev.u9);first|exact Ev.u7 rfl rfl ab ab|exact Ev.q8 rfl rfl ab ab|exact Ev.t6 rfl rfl rfl ab ab ab|exact Ev.r9 rfl rfl rfl ab ab ab)|((with_reducible apply Ev.A1);first|exact Ev.q6 rfl|exact Ev.y7 rfl|exact Ev.min2 rfl rfl|exact Ev.max2 rfl rfl)|((with_reducible apply Ev.m9);first|exact Ev.fieldAddr rfl|exact Ev.j0 rfl (by first|omega|exact az rfl)|exact Ev.e9 rfl)|((with_reducible apply Ev.o0);first|exact Ev.m7 rfl ab ab|exact Ev.n9 rfl ab ab|exact Ev.m5 rfl ab ab|exact Ev.conv rfl|exact Ev.m6 rfl (by first|rfl|omega|(simp;first|done|omega)))):φ:=h
def ym{φ:Prop}(h:φ:=by first|((with_reducible apply Ev.r6);first|exact Ev.d8 rfl rfl|exact Ev.f7 rfl (by first|omega|exact az rfl) ag rfl|exact Ev.d7 rfl aK|exact Ev.e7 rfl (by first|omega|exact az rfl)|exact Ev.d9 rfl rfl)|((with_reducible apply Ev.l0);first|exact Ev.indexAddr rfl rfl ab (by first|omega|exact az rfl) (by first|omega|exact az rfl)|exact Ev.n8 rfl rfl ab ab|exact Ev.o6 rfl rfl (by first|omega|exact az rfl) ab ab)|((with_reducible apply Ev.m9);first|exact Ev.fieldAddr rfl|exact Ev.j0 rfl (by first|omega|exact az rfl)|exact Ev.e9 rfl)|((with_reducible apply Ev.o0);first|exact Ev.m7 rfl ab ab|exact Ev.n9 rfl ab ab|exact Ev.m5 rfl ab ab|exact Ev.conv rfl|exact Ev.m6 rfl (by first|rfl|omega|(simp;first|done|omega)))):φ:=h
def yl{φ:Prop}(h:φ:=by first|((with_reducible apply Ev.r6);first|exact Ev.d8 rfl rfl|exact Ev.f7 rfl (by first|omega|exact az rfl) ag rfl|exact Ev.d7 rfl aK|exact Ev.e7 rfl (by first|omega|exact az rfl)|exact Ev.d9 rfl rfl)|((with_reducible apply Ev.l0);first|exact Ev.indexAddr rfl rfl ab (by first|omega|exact az rfl) (by first|omega|exact az rfl)|exact Ev.g8 rfl rfl ab ab|exact Ev.n8 rfl rfl ab ab|exact Ev.o6 rfl rfl (by first|omega|exact az rfl) ab ab)|((with_reducible apply Ev.m9);first|exact Ev.fieldAddr rfl|exact Ev.j0 rfl (by first|omega|exact az rfl)|exact Ev.e9 rfl)|((with_reducible apply Ev.o0);first|exact Ev.m7 rfl ab ab|exact Ev.n9 rfl ab ab|exact Ev.m5 rfl ab ab|exact Ev.conv rfl|exact Ev.m6 rfl (by first|rfl|omega|(simp;first|done|omega)))):φ:=h
def yp{φ:Prop}(h:φ:=by first|exact yl|exact yo):φ:=h
def Jp{φ ψ:Prop}(k:ψ)(h:Hid ψ→φ:=by intro k;(repeat1' (first|((with_reducible apply GO.d7);first|refine GO.ev yp ag ?_|refine GO.efB (Ef.l9 rfl) ag ?_|refine GO.efB (Ef.m5 rfl rfl) ag ?_|refine GO.efB (Ef.alloc) ag ?_|refine GO.efB (Ef.lit rfl rfl ag rfl) ag ?_)|((with_reducible apply GO.e9);first|refine GO.f8 rfl rfl ag ?_|refine GO.g7 rfl rfl ag ?_|refine GO.e7 rfl rfl ag ?_)|with_reducible apply GO.nil|((with_reducible apply GO.g8);first|refine GO.d8 (Ef.l6 rfl rfl (by first|omega|exact az rfl)) ?_|refine GO.d8 (Ef.l5 rfl rfl rfl rfl) ?_|refine GO.d8 (Ef.f7 rfl rfl aK aK (by first|exact EncC.one _|simp[Value.oneCell'])) ?_|refine GO.d8 (Ef.l0 rfl rfl aK rfl (by first|exact EncC.one _|simp[Value.oneCell'])) ?_)|((with_reducible apply GP.f7);first|refine GP.go rfl ?_|refine GP.e8 rfl rfl rfl ag ?_|refine GP.e9 rfl rfl rfl ag ?_|refine GP.e7 rfl rfl rfl ag ?_)|((with_reducible apply GPW.d9);first|refine GPW.evP yo ag ?_|refine GPW.evL ym ag ?_|refine GPW.evP (by((with_reducible apply Ev.l0);exact Ev.g8 rfl rfl ab ab)) ag ?_)|with_reducible apply GP.nil|((with_reducible apply GPW.e7);first|refine GPW.efB (Ef.l9 rfl) ag ?_|refine GPW.efB (Ef.m5 rfl rfl) ag ?_|refine GPW.efB (Ef.alloc) ag ?_|refine GPW.efB (Ef.lit rfl rfl ag rfl) ag ?_)|((with_reducible apply GPW.d8);first|refine GPW.d7 (Ef.l6 rfl rfl (by first|omega|exact az rfl)) ?_|refine GPW.d7 (Ef.l5 rfl rfl rfl rfl) ?_|refine GPW.d7 (Ef.f7 rfl rfl aK aK (by first|exact EncC.one _|simp[Value.oneCell'])) ?_|refine GPW.d7 (Ef.l0 rfl rfl aK rfl (by first|exact EncC.one _|simp[Value.oneCell'])) ?_)|with_reducible apply GPK.nil|with_reducible apply CB.tt|with_reducible apply CB.ff|with_reducible refine CB.pos ab ?_|with_reducible refine CB.neg ab ?_|with_reducible refine CB.pos (by simp;first|done|omega) ?_|with_reducible refine CB.neg (by simp;first|done|omega) ?_|with_reducible apply GB.tt|with_reducible apply GB.ff|with_reducible refine GB.pos ab ?_|with_reducible refine GB.neg ab ?_|with_reducible refine GB.pos (by simp;first|done|omega) ?_|with_reducible refine GB.neg (by simp;first|done|omega) ?_|with_reducible refine KX.g8 ?_|with_reducible refine KX.f8 ?_|with_reducible refine KX.j0 ?_|with_reducible refine KX.l5 ?_|with_reducible refine KX.g7 ?_|with_reducible refine KX.g9 ?_|with_reducible refine KX.d8 ?_|with_reducible refine KX.f7 ag ?_|with_reducible apply G.block|with_reducible apply G.region|with_reducible apply G.skip|with_reducible apply G.exit|with_reducible apply G.ret|refine G.cond rfl ?_));exact Hid.out k):φ:=h ⟨k⟩
def run{φ ψ:Prop}(k:ψ)(h:Hid ψ→φ:=by intro k;(repeat1' (first|refine Jp ?_|((with_reducible apply GPK.d7);first|refine GPK.drop rfl ?_|refine GPK.keep yl ?_)|with_reducible apply G.seq));exact Hid.out k):φ:=h ⟨k⟩
end
section
open Go.ChangeShapes Go.WideShapes Go.ChangeAt Go.RowKit
def wl(w:World):HP:=fun ι _=>Hp.sub (iA w) ι
def Stars.snoc{L:LH}{ι h:Hp}{p:HP}(s:Stars L ι h)(hp:p ι Hp.emp):Stars (L++[p]) ι h:=by
 induction L generalizing h with
 | nil=>exact⟨ι,Hp.emp,h,Hp.sub.refl _,Hp.d8 _,Hp.d7 _,Hp.sub.refl _,hp,trivial⟩
 | cons q L ih =>
  obtain⟨ι₀,h₁,h₂,a,b,c,d,e,f⟩:=s;exact⟨ι₀,h₁,h₂,a,b,c,d,e,ih f⟩
def Tri.law{P:Program}{f:FuncId}{args:Array Value}{L:LH}{v:Value}{post:LH→Prop}(h:Tri P f args L (fun u L'=>u=v∧post L'))(w:World)(hs:Stars L (iA w) Hp.emp) :
  Calls P f args w fun e w'=>e=.returned v∧Below w.heap.size w w':=by
 have s0:Sat ⟨w.tape,w.os,w.output,w.drawn⟩ (L++[wl w]) w:=⟨⟨rfl,rfl,rfl,aB _⟩,iA w,Hp.emp,fun _ _ _=>rfl,Hp.sub.refl _,Hp.d7 _,hs.snoc (Hp.sub.refl _)⟩;refine(h.calls _ _ w s0).mono ?_;rintro e w' ⟨u,L',rfl,⟨rfl,_⟩,s1⟩;refine⟨rfl,?_⟩;have s2:Sat ⟨w.tape,w.os,w.output,w.drawn⟩ (wl w::L') w':=s1.perm (dW _ _);obtain⟨ok,ι,h,a,b1,c,ι₀,h₁,h₂,d1,d2,d3,d4,d5,d6⟩:=s2;have hk:∀k o,w.heap[k]? = some o→w'.heap[k]? = some o:=fun k o hx=>b1 k o (d1 k o (d5 k o hx));refine⟨ok.os,ok.tape,ok.output,?_,fun k a0=>?_⟩
 ·rcases cc w'.heap.size w.heap.size with a1|a2
  ·have h1:=hk w'.heap.size _ (Array.getElem?_eq_getElem a1);rw[Array.getElem?_eq_none (aB _)] at h1;cases h1
  ·exact a2
 ·rw[Array.getElem?_eq_getElem a0];exact hk k _ (Array.getElem?_eq_getElem a0)
def Cx{H:Type}{enc:TypeId×Value→H}{P:Program}{f:Func}{s:ChangeSpec}{apart fresh a1:Bool}{W W' : World}{args:Array Value}{v:Value}{ds gs:List (DataW H)}{a0 pa pv:List MemPlace}
  (hW:DataW.Whole enc P f.params.toList s.vars apart W args.toList ds gs a0)
  (a4:∀(b:Nat) (sp:Nat→Bool) (hd:Bool),DataW.TrodAll enc P W' b sp hd f.resultTypes.toList (v.resultList f.resultTypes.size) (s.fn H (ds++gs)).results [])
  (a2:DataW.TrodAll enc P W' 0 (fun b=>decide (b<W.heap.size)) true f.params.toList args.toList (s.fn H (ds++gs)).args pa)
  (a3:DataW.TrodVars enc P W' (fun b=>decide (b<W.heap.size)) s.vars (s.fn H (ds++gs)).vars pv)
  (a5:a0=pa++pv) (hb:Below W.heap.size W W') :
  s.post enc P f apart fresh a1 false W args v W':=by
 refine⟨ds,gs,a0,[],pa,pv,hW,a4 _ _ _,a2,a3,World.keptBut_mono (fun p hp=>⟨hp,?_⟩) (hb.frame (·∈a0)),fun h=>by cases h⟩;rw[a5,List.mem_append] at hp;exact Or.inr hp
def xW{w:World}{k:IntKind}{b off len:Nat}{zs:List Int}(hc:∀i,i<zs.length→w.cell? ⟨b,off+i,none⟩=some (.int k (zs.getD i 0)))(hl:len≤zs.length):isl (encZ k) 1 (some ⟨b,off,none⟩) (zs.take len) (iA w) Hp.emp:=by
 refine⟨fun _ _=>rfl,?_⟩;rcases Nat.eq_zero_or_pos (zs.take len).length with h0|a0
 ·exact .inl (aX h0)
 right;have hz:0<zs.length:=by simp at a0;omega
 have h0:=hc 0 hz;cases hb:w.heap[b]? with
 | none=>simp[World.cell?,hb] at h0
 | some o =>
  cases o with
  | cells cur E fz =>
   refine⟨b,off,cur,E,fz,rfl,hb,fun i v hv=>?_⟩;rw[nA] at hv
   have hi:i<(zs.take len).length:=by
    rcases cc i (zs.take len).length with h|h
    ·exact h
    ·rw[List.getElem?_eq_none (by simpa using h)] at hv;cases hv
   have h1:=hc i (by simp at hi;omega);rw[fk hb] at h1;rw[h1,←hv];simp only[bG] at hi;simp[show i<len by omega,List.getD,List.getElem?_eq_getElem (ab:i<zs.length)]
  | _=>simp[World.cell?,hb] at h0
def Stars.push{L:LH}{ι:Hp}{p:HP}(hp:p ι Hp.emp)(s:Stars L ι Hp.emp):Stars (p::L) ι Hp.emp:=⟨ι,Hp.emp,Hp.emp,Hp.sub.refl _,Hp.d8 _,Hp.d7 _,Hp.sub.refl _,hp,s⟩
abbrev pM(W:World)(b:Nat):Option Obj:=W.heap[b]?
def Ij{H:Type}{enc:TypeId×Value→H}{P:Program}{W:World}{t e:TypeId}{k:IntKind}{ad:OA}{len cap:Nat}{d:DataW H}{p:List MemPlace}(ht:P.underlying t=some (.slice e))(he:P.underlying e=some (.int k))(hc:P.cellsOf e=1)
  (h:DataW.Trod enc P W 0 (fun _=>true) true t (.slice ad len cap) d p):∃xs:List Int,isl (encZ k) 1 ad xs (iA W) Hp.emp∧len=xs.length∧(len≤cap∧cap≤maxLen)∧∀x∈xs,(Lit.int k x).wf=true:=by
 obtain⟨fuel,hf⟩:=h;rcases open_ints ht he hc hf with⟨a1,hx⟩|⟨a,a4,a6,zs,a1,_,hl,hm,hz,hx,a0,a5⟩
 ·simp[Value.cells] at a1;obtain⟨rfl,rfl,rfl⟩:=a1;exact⟨[],⟨by simp,.inl rfl⟩,rfl,⟨by simp,by simp⟩,by simp⟩
 ·simp[Value.cells] at a1;obtain⟨rfl,rfl,rfl⟩:=a1;simp only[if_true] at hz;refine⟨zs.take len,?_,by simp[bG];omega,⟨hl,hm⟩,fun x hx=>a5 x (dv hx)⟩;rcases Nat.eq_zero_or_pos zs.length with h0|a3
  ·have:zs=[]:=aX h0;subst this;exact⟨by simp,.inl bZ⟩
  ·have h1:=a0 0 a3;obtain⟨b,off,a2⟩:=a
   have hs:a2=none:=by
    rw[wd] at h1;unfold World.cell? at h1;cases hb:pM W b with
    | none=>simp[pM] at hb;simp[hb] at h1
    | some o =>
     simp only[pM] at hb;simp only[hb] at h1;cases o with
     | cells c E fz=>cases a2 with
      | none=>rfl
      | some x=>simp at h1
     | _=>simp at h1
   subst hs;exact xW (fun i hi=>by rw[←jV];exact a0 i hi) ab
def EJ{a:Int}(h:(Lit.int .i64 a).wf=true) : -9223372036854775808≤a∧a≤9223372036854775807:=by
 simp[Lit.wf,IntKind.min,IntKind.max,IntKind.signed,IntKind.bits] at h;omega
end
section
structure SlV where
 ad:OA
 n:Nat
 cap:Nat
 deriving Inhabited
def rc(s:SlV):LV:=[.slice s.ad s.n s.cap]
def upd{α:Type}(f:Int→α)(k:Int)(v:α):Int→α:=fun j=>if j=k then v else f j
def pr{α:Type}(f:Int→α):List α:=[f 0,f 1]
section
variable {P:Program}{env:Env}{L:LH}{ty:TypeId}
structure IsMapClone (P:Program) (f:FuncId):Prop where
 run:∀args w,(callFunc f args).run P w=((Extern.MapsClone.clone args).run P w).andThen fun v w'=>.ok (.value v) w'
