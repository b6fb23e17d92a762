/- Lemmas. -/
import Derived.Test.YtommnllbflbdmaaGreatDoorLad
import Derived.Laws.BytesArg
import Derived.Laws.Strings
import Derived.Laws.MakeOwn
import Derived.ProofKit
import Derived.Carry
import Derived.ChangeSlices
import Derived.ChangeSame
import Derived.OpenShut
import Derived.Laws.Externs
import Derived.MapKept
set_option linter.all false
namespace Go.V
section
class TyBool (P:Program) (T:Nat):Prop where
 under:P.underlying T=some .bool
section
variable {P:Program}{env:Env}{L:LH}{ty:TypeId}
theorem oo{t:TypeId}{a b:Bool}{w:World}{n:Nat}(he:P.underlying t=some .bool):(Op.equalIn (n+1) t (.bool a) (.bool b)).run P w=.ok (a == b) w:=by
 simp[Op.equalIn,run_underlying he]
theorem Ev.C3{t yt:TypeId}{x y:Operand}{φ ψ:Prop}[Decidable φ][Decidable ψ][ht:TyBool P t](hx:evE env x=some (.bool (dB φ)))(hy:evE env y=some (.bool (dB ψ))):Ev P L env (.binOp .neq t x y yt) ty (.bool (dB (¬(φ↔ψ)))) :=
 Ev.mk (fun _ _ _ w ea _ _ _ _ _=>by
  have h1:=kg (P:=P) (w:=w) (fun n=>oo (n:=n) (a:=dB φ) (b:=dB ψ) ht.under)
  have h2:(!(dB φ == dB ψ))=dB (¬(φ↔ψ)):=by
   rw[fN,fN,fN];by_cases h:φ<;>by_cases h' : ψ<;>simp[h,h']
  simp[execOp,aO ea hx,aO ea hy,eqGuard,binOp,h1,h2])
theorem Ev.C4{t yt:TypeId}{x y:Operand}{φ ψ:Prop}[Decidable φ][Decidable ψ][ht:TyBool P t](hx:evE env x=some (.bool (dB φ)))(hy:evE env y=some (.bool (dB ψ))):Ev P L env (.binOp .eql t x y yt) ty (.bool (dB (φ↔ψ))) :=
 Ev.mk (fun _ _ _ w ea _ _ _ _ _=>by
  have h1:=kg (P:=P) (w:=w) (fun n=>oo (n:=n) (a:=dB φ) (b:=dB ψ) ht.under)
  have h2:(dB φ == dB ψ)=dB (φ↔ψ):=by
   rw[fN,fN,fN];by_cases h:φ<;>by_cases h' : ψ<;>simp[h,h']
  simp[execOp,aO ea hx,aO ea hy,eqGuard,binOp,h1,h2])
theorem wX(a b:ByteArray):(a.toList == b.toList)=decide (a=b):=by
 rw[ByteArray.toList_eq,ByteArray.toList_eq];cases a with|mk a=>cases b with|mk b =>
 by_cases h:a=b
 ·subst h;simp
 ·simp[h]
theorem Ev.A4{t yt:TypeId}{x y:Operand}{a b:ByteArray}(hx:evE env x=some (.string a))(hy:evE env y=some (.string b)):Ev P L env (.binOp .eql t x y yt) ty (.bool (dB (a=b))) :=
 Ev.mk (fun _ _ _ w ea _ _ _ _ _=>by
  simp[execOp,aO ea hx,aO ea hy,eqGuard,binOp,Op.stringOp,fN,wX])
theorem Ev.A0{t yt:TypeId}{x y:Operand}{a b:ByteArray}(hx:evE env x=some (.string a))(hy:evE env y=some (.string b)):Ev P L env (.binOp .neq t x y yt) ty (.bool (dB (¬a=b))) :=
 Ev.mk (fun _ _ _ w ea _ _ _ _ _=>by
  simp[execOp,aO ea hx,aO ea hy,eqGuard,binOp,Op.stringOp,fN,wX])
theorem mG(xs:List Int)(k:IntKind):xs.flatMap (encZ k)=xs.map (Value.int k):=mU _ xs
theorem Ev.l8{s t:TypeId}{x:Operand}{ad:OA}{n c E sz bb:Nat}{z:LV}{xs:List Int}[hs:TySl P s E sz bb z][he:TyInt P E .u8][ht:TyStr P t][hr:Rds L ad Int (encZ .u8) 1 xs](hx:evE env x=some (.slice ad n c))(hn:n=xs.length) :
  Ev P L env (.convert s t x) ty (.string (strOfNums xs)) :=
 Ev.mk (fun θ R _ w ea st _ _ _ _=>by
  subst hn;obtain⟨h1,h2⟩:=hr.rd θ R w st
  have hc:(convert s t (.slice ad xs.length c)).run P w=.ok (.string (strOfNums xs)) w:=by
   rw[run_convert_bytes_string w s t E ad xs.length c hs.under he.under ht.under];rcases h2 with rfl|⟨a,rfl,h3⟩
   ·cases ad with
    | none=>simp[Conv.bytesToString,strOfNums];rfl
    | some a =>
     have hl:(loadCells a 0).run P w=.ok (([]:List Int).map (Value.int .u8)).toArray w:=by simp[loadCells,loadCellsFrom]
     exact(run_bytesToString w a 0 c [] hl).trans (by simp[strOfNums];rfl)
   ·rw[mG] at h3;have hl:=run_loadCells_list (P:=P) w a (xs.map (Value.int .u8)) h3;rw[List.length_map] at hl;rw[run_bytesToString w a xs.length c xs hl,foldl_push_bytes];simp[strOfNums,ByteArray.empty,ByteArray.emptyWithCapacity];rfl
  simp[execOp,aO ea hx,hc])
theorem rW{α:Type}[Inhabited α](f:Nat→α)(x:α)(n:Nat)(h:∀i,i<n→f i=x):(Array.range n).map f=(List.replicate n x).toArray:=by
 apply Array.ext
 ·simp
 ·intro i h1 h2;simp at h1 ⊢;exact h i h1
theorem Ef.makeSlice{t:TypeId}{x y:Operand}{E bb:Nat}{z0:Value}{α:Type}(enc:α→LV)(e:α){n:Int}[ht:TySl P t E 1 bb [z0]](hx:evE env x=some (.int .i64 n))(hy:evE env y=some (.int .i64 n))(he:enc e=[z0])(h0:0≤n)(h1:n*bb≤16777216)(h2:n≤1000000000) :
  Ef P L env (.makeSlice t x y) ty (fun v L'=>∃b,v=.slice (some ⟨b,0,none⟩) n.toNat n.toNat∧L' = osl enc 1 E (some ⟨b,0,none⟩) n.toNat (List.replicate n.toNat e)::L) :=
 Ef.val (fun θ R a w ea s dst pos af g=>⟨.slice (some ⟨w.heap.size,0,none⟩) n.toNat n.toNat,w.alloc (.cells (List.replicate n.toNat z0).toArray E),_,by
  obtain⟨ii,zz,i1,i2,i3,i4,i5⟩:=ht.parts
  have hz:zz.cells=#[z0]:=by
   have:=i3
   apply Array.ext';simpa using this
  have hm:madeCells zz.cells (n.toNat*ii.size)=(List.replicate n.toNat z0).toArray:=by
   rw[hz,i4,Nat.mul_one];exact rW _ _ _ (fun i _=>by simp[Nat.mod_one])
  have hk:=run_make (P:=P) w t E ii zz ht.under i1 i2 .i64 .i64 n n h0 (Int.le_refl _) (by rw[i5,Int.mul_comm];omega) (by omega);rw[hm] at hk
  simp[execOp,aO ea hx,aO ea hy,hk],⟨_,rfl,rfl⟩,by
   have s1:=s.alloc (o:=.cells (List.replicate n.toNat z0).toArray E);refine Sat.osl_mk (enc:=enc) (sz:=1) (cap:=n.toNat) (xs:=List.replicate n.toNat e) (L:=L++R) s1 ?_ (by simp) (by simp only[maxLen];omega) (by simp) ?_
   ·intro x hx;rw[List.eq_of_mem_replicate hx,he];rfl
   ·have:∀k,(List.replicate k e).flatMap enc=List.replicate k z0:=by
     intro k;induction k with
     | zero=>rfl
     | succ k ih=>rw[List.replicate_succ,List.flatMap_cons,ih,he];rfl
    rw[this];simp⟩)
theorem Ef.ent{op:Op}{L' : LH}{post:Value→LH→Prop}(h:Ent L L')(k:Ef P L' env op ty post):Ef P L env op ty post:=fun θ R a w o next Q ha s h1 h2 hn=>k θ R a w o next Q ha (h θ R w s) h1 h2 hn
theorem wB{α:Type}[Inhabited α]{enc:α→LV}{sz o:Nat}{e:α}{v:Value}:∀{xs:List α} {j:Nat},(∀x∈xs,(enc x).length=sz)→j<xs.length→o<sz→enc e=(enc xs[j]!).set o v→(xs.set j e).flatMap enc=(xs.flatMap enc).set (j*sz+o) v
 | [],j,_,hj,_,_=>by simp at hj
 | x::xs,0,h,_,ho,he=>by
  have hx:=h x (by simp);simp only[List.set_cons_zero,List.flatMap_cons,Nat.zero_mul,Nat.zero_add];rw[List.set_append,if_pos (by omega),he];simp
 | x::xs,j+1,h,hj,ho,he=>by
  have hx:=h x (by simp);simp only[List.set_cons_succ,List.flatMap_cons];have e1:¬((j+1)*sz+o<(enc x).length):=by rw[hx,Nat.succ_mul];omega
  rw[List.set_append,if_neg e1];have e2:(j+1)*sz+o - (enc x).length=j*sz+o:=by rw[hx,Nat.succ_mul];omega
  rw[e2,wB (fun y hy=>h y (by simp[hy])) (by simpa using hj) ho (by simpa using he)]
theorem Ef.e8{t:TypeId}{x y:Operand}{ad:OA}{sz j o E cap:Nat}{α:Type}[Inhabited α]{enc:α→LV}{xs:List α}{Rest:LH}{v:Value}(e:α)[ht:TyOne P t][hp:PickOsl L ad α enc sz E cap xs Rest]
  (hx:evE env x=some (.pointer (elP ad sz j o))) (hy:evE env y=some v) (he:enc e=(enc xs[j]!).set o v) (h1:v.oneCell' = true) (hj:j<xs.length) (ho:o<sz) :
  Ef P L env (.store t x y) ty (fun _ L'=>L' = osl enc sz E ad cap (xs.set j e)::Rest) :=
 Ef.skip (fun θ R ρ w ea s dst pos af g=>by
  have s1:=s.perm (hp.perm.append_right R);obtain⟨p1,p2,p3,p4⟩:=Sat.osl_parts s1;rcases p4 with⟨rfl,rfl⟩|⟨gb,cur,rfl,f1,f2,f3⟩
  ·omega
  ·have hb:w.heap[gb]? = some (.cells cur E (0,0)):=f3.own_heap
   have hlen:j*sz+o<xs.length*sz:=by
    have:(j+1)*sz≤xs.length*sz:=Nat.mul_le_mul_right _ hj
    rw[Nat.succ_mul] at this;omega
   have hlt:j*sz+o<cur.size:=by
    have:=Nat.mul_le_mul_right sz p2
    omega
   have hel:∀y∈xs.set j e,(enc y).length=sz:=by
    intro y hy';rcases List.mem_or_eq_of_mem_set hy' with h|h
    ·exact p1 y h
    ·subst h;rw[he,List.length_set];exact p1 _ (by rw[List.getElem!_eq_getElem?_getD,List.getElem?_eq_getElem hj];exact List.getElem_mem _)
   have hcell:w.cell? ⟨gb,j*sz+o,none⟩=some cur[j*sz+o]:=by rw[el hb];simp[hlt]
   have hfz:w.frozen? ⟨gb,j*sz+o,none⟩=false:=by simp[World.frozen?,hb]
   have hc1:v.cells=#[v]:=by cases v<;>first|rfl|cases h1
   refine⟨w.setCell ⟨gb,j*sz+o,none⟩ v,_,?_,rfl,?_⟩
   ·have hx' : evE env x=some (.pointer (some ⟨gb,j*sz+o,none⟩)):=by rw[hx];simp only[elP,Option.map_some,gd]
    simp[execOp,aO ea hx',aO ea hy,Instr.storeAt,Instr.sureAddr,storeVar,TyOne.sizeOf_run,hc1,storeCells,Addr.add,run_store _ _ _ _ _ h1,hcell,hfz]
   ·have s3:Sat θ (own gb (.cells (cur.setIfInBounds (j*sz+o) v) E (0,0))::(Rest++R)) (w.setCell ⟨gb,j*sz+o,none⟩ v):=by
     refine Sat.update f3 ⟨s.1.tape,s.1.os,s.1.output,s.1.drawn⟩ ?_ (fun k x hk hx=>by rw[lk v hk];exact hx);rw[lz v hb]
    refine Sat.osl_mk (L:=Rest++R) s3 hel (by simpa using p2) p3 (by simpa using f1) ?_;rw[wB p1 hj ho he,←f2];simp[List.take_set])
theorem Ef.l0{t:TypeId}{x y:Operand}{ad:OA}{j E cap:Nat}{k:IntKind}{n:Int}{xs:List Int}{Rest:LH}[ht:TyOne P t][hp:PickOsl L ad Int (encZ k) 1 E cap xs Rest]
  (hx:evE env x=some (.pointer (elP ad 1 j 0))) (hy:evE env y=some (.int k n)) (hj:j<xs.length) :
  Ef P L env (.store t x y) ty (fun _ L'=>L' = osl (encZ k) 1 E ad cap (xs.set j n)::Rest):=Ef.e8 n hx hy rfl rfl hj (by omega)
theorem Ev.l9{s t:TypeId}{x:Operand}{k:IntKind}{a:Int}[hs:TyInt P s k][ht:TyInt P t .i64](hx:evE env x=some (.int k a))(h0 : -9223372036854775808≤a)(h1:a≤9223372036854775807):Ev P L env (.convert s t x) ty (.int .i64 a):=by
 have:=Ev.conv (P:=P) (L:=L) (ty:=ty) (s:=s) (t:=t) hx
 rwa [IntWalk.i64_in a ⟨h0,h1⟩] at this
theorem Ev.n9{s t:TypeId}{x:Operand}{k:IntKind}{a:Int}[hs:TyInt P s k][ht:TyInt P t .u8](hx:evE env x=some (.int k a))(h0:0≤a)(h1:a≤255):Ev P L env (.convert s t x) ty (.int .u8 a):=by
 have:=Ev.conv (P:=P) (L:=L) (ty:=ty) (s:=s) (t:=t) hx
 rwa [IntWalk.u8_in a ⟨h0,h1⟩] at this
theorem Ev.l7{s t:TypeId}{x:Operand}{k:IntKind}{a:Int}[hs:TyInt P s k][ht:TyInt P t .u64](hx:evE env x=some (.int k a))(h0:0≤a)(h1:a≤18446744073709551615):Ev P L env (.convert s t x) ty (.int .u64 a):=by
 have:=Ev.conv (P:=P) (L:=L) (ty:=ty) (s:=s) (t:=t) hx
 rwa [IntWalk.u64_in a ⟨h0,h1⟩] at this
end
end
section
section
variable {P:Program}{N:Nat}{env:Env}{L:LH}{K:Post}{ops:Array Oper}{rest:List Oper}{d i:Nat}{op:Op}{ty:TypeId}{pos:String}{af:Array Edge}{X:LH}{f:Nat→Value}{g:Nat→LH}{done:List Nat}{plan:List Stp}{pend:List PE}
theorem GO.d9(he:Ef P L env op ty (fun _ L'=>L' = X))(h:GO P N ops rest env X K):GO P N ops (⟨none,op,ty,pos,af,none⟩::rest) env L K:=GO.efu he (by rintro _ _ rfl;exact h)
theorem GO.efB(he:Ef P L env op ty (fun v L'=>∃b,v=f b∧L' = g b))(hd:d<N)(h:∀b,GO P N ops rest ((d,f b)::env) (g b) K):GO P N ops (⟨some d,op,ty,pos,af,none⟩::rest) env L K:=GO.ef he hd (by rintro _ _⟨b,rfl,rfl⟩;exact h b)
theorem GPW.d9(he:Ef P L env op ty (fun _ L'=>L' = X))(h:GPK P N ops done i plan pend [] env X K):GPW P N ops done (.ef i) plan none op ty pend env L K:=GPW.efu he (by rintro _ _ rfl;exact h)
theorem GPW.efB(he:Ef P L env op ty (fun v L'=>∃b,v=f b∧L' = g b))(hd:d<N)(h:∀b,GPK P N ops done i plan pend [] ((d,f b)::env) (g b) K):GPW P N ops done (.ef i) plan (some d) op ty pend env L K:=GPW.ef he hd (by rintro _ _⟨b,rfl,rfl⟩;exact h b)
end
structure Hid (ψ:Prop):Prop where
 out:ψ
theorem ap{φ:Prop}(h:φ:=by kernel_rfl):φ:=h
theorem ae{φ:Prop}(h:φ:=by decide):φ:=h
theorem ag{φ:Prop}(h:φ:=by repeat (first|exact Ent.refl _|exact Ent.nil _|refine Ent.o6 ?_|refine Ent.trans Ent.drop ?_)):φ:=h
theorem ai{φ:Prop}(h:φ:=by exact ResOk.tmps rfl):φ:=h
theorem ac{φ:Prop}(h:φ:=by omega):φ:=h
theorem aP(i:Nat):((i+1:Nat):Int)=(i:Int)+1:=by omega
theorem Kq{α:Type}{p:α→Prop}:∀x∈([]:List α),p x:=fun _ h=>absurd h List.not_mem_nil
abbrev au(b:Nat):Value:=.pointer (some ⟨b,0,none⟩)
abbrev ab(x:Int):Value:=.int .i64 x
theorem gr:type_of% @Array.length_toList:=@Array.length_toList
theorem jR:type_of% @Bool.and_eq_true:=@Bool.and_eq_true
theorem fS:type_of% @Bool.false_eq_true:=@Bool.false_eq_true
theorem iU:type_of% @Int.ediv_nonneg:=@Int.ediv_nonneg
theorem dw:type_of% @Int.emod_lt_of_pos:=@Int.emod_lt_of_pos
theorem dg:type_of% @Int.emod_nonneg:=@Int.emod_nonneg
theorem bu:type_of% @Int.le_refl:=@Int.le_refl
theorem eN:type_of% @Int.mul_le_mul:=@Int.mul_le_mul
theorem bX:type_of% @Int.mul_le_mul_of_nonneg_right:=@Int.mul_le_mul_of_nonneg_right
theorem dC:type_of% @Int.mul_nonneg:=@Int.mul_nonneg
theorem fK:type_of% @Int.natCast_mul:=@Int.natCast_mul
theorem fj:type_of% @Int.sub_zero:=@Int.sub_zero
theorem aA:type_of% @Int.toNat_natCast:=@Int.toNat_natCast
theorem aH:type_of% @List.append_assoc:=@List.append_assoc
theorem ba:type_of% @List.append_nil:=@List.append_nil
theorem ax{α:Type _}{a:α}{b c:List α}:(a::b)++c=a::(b++c):=rfl
theorem eD:type_of% @List.drop_eq_getElem_cons:=@List.drop_eq_getElem_cons
theorem bP:type_of% @List.drop_of_length_le:=@List.drop_of_length_le
theorem aW:type_of% @List.eq_nil_of_length_eq_zero:=@List.eq_nil_of_length_eq_zero
theorem fH:type_of% @List.eq_of_mem_replicate:=@List.eq_of_mem_replicate
theorem dv:type_of% @List.ext_getElem:=@List.ext_getElem
theorem gI:type_of% @List.ext_getElem?:=@List.ext_getElem?
theorem dJ:type_of% @List.filter_append:=@List.filter_append
theorem gc:type_of% @List.filter_cons:=@List.filter_cons
theorem cv:type_of% @List.filter_cons_of_neg:=@List.filter_cons_of_neg
theorem cu:type_of% @List.filter_cons_of_pos:=@List.filter_cons_of_pos
theorem gq:type_of% @List.filter_sublist:=@List.filter_sublist
theorem cM:type_of% @List.flatMap_append:=@List.flatMap_append
theorem bY:type_of% @List.flatMap_cons:=@List.flatMap_cons
theorem cJ:type_of% @List.foldl_append:=@List.foldl_append
theorem gn:type_of% @List.foldl_cons:=@List.foldl_cons
theorem eG:type_of% @List.getElem_drop:=@List.getElem_drop
theorem eV:type_of% @List.getElem_inj:=@List.getElem_inj
theorem eU:type_of% @List.getElem_map:=@List.getElem_map
theorem eQ:type_of% @List.getElem_mem:=@List.getElem_mem
theorem fC:type_of% @List.getElem_set:=@List.getElem_set
theorem dW:type_of% @List.getElem_take:=@List.getElem_take
theorem az:type_of% @List.length_append:=@List.length_append
theorem bD:type_of% @List.length_cons:=@List.length_cons
theorem bR:type_of% @List.length_drop:=@List.length_drop
theorem aG:type_of% @List.length_map:=@List.length_map
theorem cH:type_of% @List.length_nil:=@List.length_nil
theorem bg:type_of% @List.length_set:=@List.length_set
theorem bC:type_of% @List.length_singleton:=@List.length_singleton
theorem aY:type_of% @List.length_take:=@List.length_take
theorem df:type_of% @List.lookup_cons:=@List.lookup_cons
theorem aZ:type_of% @List.map_append:=@List.map_append
theorem cU:type_of% @List.map_congr_left:=@List.map_congr_left
theorem bO:type_of% @List.map_cons:=@List.map_cons
theorem eM:type_of% @List.map_map:=@List.map_map
theorem gm:type_of% @List.map_nil:=@List.map_nil
theorem cA:type_of% @List.mem_append_left:=@List.mem_append_left
theorem cV:type_of% @List.mem_append_right:=@List.mem_append_right
theorem bj:type_of% @List.mem_cons:=@List.mem_cons
theorem av:type_of% @List.mem_cons_of_mem:=@List.mem_cons_of_mem
theorem aw:type_of% @List.mem_cons_self:=@List.mem_cons_self
theorem alStd0List_mem_map_of_mem:type_of% @List.mem_map_of_mem:=@List.mem_map_of_mem
theorem dA:type_of% @List.mem_of_mem_drop:=@List.mem_of_mem_drop
theorem cz:type_of% @List.mem_of_mem_take:=@List.mem_of_mem_take
theorem cK:type_of% @List.mem_or_eq_of_mem_set:=@List.mem_or_eq_of_mem_set
theorem aq{α:Type _}{b:List α}:[]++b=b:=rfl
theorem gH:type_of% @List.nodup_append:=@List.nodup_append
theorem dM:type_of% @List.nodup_cons:=@List.nodup_cons
theorem aT:type_of% @List.not_mem_nil:=@List.not_mem_nil
theorem cR:type_of% @List.pairwise_singleton:=@List.pairwise_singleton
theorem dO:type_of% @List.perm_append_singleton:=@List.perm_append_singleton
theorem fB:type_of% @List.perm_middle:=@List.perm_middle
theorem eu:type_of% @List.range_succ:=@List.range_succ
theorem fi:type_of% @List.take_append_drop:=@List.take_append_drop
theorem bG:type_of% @List.take_length:=@List.take_length
theorem aD:type_of% @List.take_of_length_le:=@List.take_of_length_le
theorem aC:type_of% @List.take_succ_eq_append_getElem:=@List.take_succ_eq_append_getElem
theorem ce:type_of% @List.take_zero:=@List.take_zero
theorem dH:type_of% @Nat.add_assoc:=@Nat.add_assoc
theorem fX:type_of% @Nat.add_mul:=@Nat.add_mul
theorem fb:type_of% @Nat.div_add_mod:=@Nat.div_add_mod
theorem fh:type_of% @Nat.div_lt_iff_lt_mul:=@Nat.div_lt_iff_lt_mul
theorem dQ:type_of% @Nat.le_add_right:=@Nat.le_add_right
theorem ay:type_of% @Nat.le_of_ble_eq_true:=@Nat.le_of_ble_eq_true
theorem aB:type_of% @Nat.le_refl:=@Nat.le_refl
theorem bN:type_of% @Nat.le_succ:=@Nat.le_succ
theorem cB:type_of% @Nat.le_trans:=@Nat.le_trans
theorem cg:type_of% @Nat.lt_or_ge:=@Nat.lt_or_ge
theorem dI:type_of% @Nat.mod_lt:=@Nat.mod_lt
theorem ie:type_of% @Nat.mul_add:=@Nat.mul_add
theorem gL:type_of% @Nat.mul_assoc:=@Nat.mul_assoc
theorem ee:type_of% @Nat.mul_comm:=@Nat.mul_comm
theorem dz:type_of% @Nat.mul_le_mul_right:=@Nat.mul_le_mul_right
theorem cd:type_of% @Nat.not_lt_zero:=@Nat.not_lt_zero
theorem de:type_of% @Nat.zero_add:=@Nat.zero_add
theorem ao:type_of% @Nat.zero_le:=@Nat.zero_le
theorem fA:type_of% @Option.getD_none:=@Option.getD_none
theorem fJ:type_of% @Option.map_none:=@Option.map_none
theorem gk:type_of% @Option.map_some:=@Option.map_some
theorem aj{φ:Prop}(h:φ:=by repeat (first|exact EnvSub.nil _|refine EnvSub.cons rfl ?_)):φ:=h
theorem wJ{φ:Prop}(h:φ:=by first|((with_reducible apply Ev.A8);exact Ev.move rfl)|((with_reducible apply Ev.x8);exact Ev.assign rfl)|((with_reducible apply Ev.A7);first|exact Ev.t6 rfl rfl|exact Ev.r8 rfl rfl)|((with_reducible apply Ev.u7);exact Ev.extract rfl rfl)|((with_reducible apply Ev.B5);exact Ev.nilCheck rfl)|((with_reducible apply Ev.m6);first|exact Ev.fieldAddr rfl|exact Ev.j0 rfl (by first|omega|exact ay rfl)|exact Ev.e9 rfl)|((with_reducible apply Ev.u6);first|exact Ev.d8 rfl rfl|exact Ev.f7 rfl (by first|omega|exact ay rfl) ae rfl|exact Ev.d7 rfl (by rfl)|exact Ev.e7 rfl (by first|omega|exact ay rfl)|exact Ev.d9 rfl rfl)|((with_reducible apply Ev.l0);first|exact Ev.indexAddr rfl rfl ac (by first|omega|exact ay rfl) (by first|omega|exact ay rfl)|exact Ev.g8 rfl rfl ac ac|exact Ev.m9 rfl rfl ac ac|exact Ev.o6 rfl rfl (by first|omega|exact ay rfl) ac ac)|((with_reducible apply Ev.x7);exact Ev.t7 rfl rfl ac ac)|((with_reducible apply Ev.B6);first|exact Ev.eql rfl rfl|exact Ev.neq rfl rfl|exact Ev.lss rfl rfl|exact Ev.leq rfl rfl|exact Ev.gtr rfl rfl|exact Ev.geq rfl rfl|exact Ev.add rfl rfl ac ac|exact Ev.sub rfl rfl ac ac|exact Ev.mul rfl rfl ac ac|exact Ev.quo rfl rfl ac ac ac|exact Ev.C0 rfl rfl ac ac ac|exact Ev.rem rfl rfl ac ac|exact Ev.B9 rfl rfl ac|exact Ev.A5 rfl rfl|exact Ev.A1 rfl rfl|exact Ev.v8 rfl rfl|exact Ev.B2 rfl rfl|exact Ev.C4 rfl rfl|exact Ev.C3 rfl rfl|exact Ev.A4 rfl rfl|exact Ev.A0 rfl rfl|exact Ev.B4 rfl rfl (by rfl) (by rfl)|exact Ev.o9 rfl rfl (by rfl) (by rfl))|((with_reducible apply Ev.C5);first|exact Ev.C1 rfl|exact Ev.C2 rfl|exact Ev.not rfl|exact Ev.u9 rfl|exact Ev.neg rfl ac ac)|((with_reducible apply Ev.o0);first|exact Ev.l9 rfl ac ac|exact Ev.n9 rfl ac ac|exact Ev.l7 rfl ac ac|exact Ev.conv rfl|exact Ev.l8 rfl (by first|rfl|omega|(simp;first|done|omega)))|((with_reducible apply Ev.y8);first|exact Ev.build rfl rfl|exact Ev.A6 rfl rfl)|((with_reducible apply Ev.A9);exact Ev.makeFunc rfl rfl)|((with_reducible apply Ev.y7);first|exact Ev.x9 rfl rfl ac ac|exact Ev.r9 rfl rfl ac ac|exact Ev.v7 rfl rfl rfl ac ac ac|exact Ev.v6 rfl rfl rfl ac ac ac)|((with_reducible apply Ev.B0);first|exact Ev.r7 rfl|exact Ev.A3 rfl|exact Ev.min2 rfl rfl|exact Ev.max2 rfl rfl)):φ:=h
theorem wI{φ:Prop}(h:φ:=by first|((with_reducible apply Ev.A8);exact Ev.move rfl)|((with_reducible apply Ev.x8);exact Ev.assign rfl)|((with_reducible apply Ev.A7);first|exact Ev.t6 rfl rfl|exact Ev.r8 rfl rfl)|((with_reducible apply Ev.u7);exact Ev.extract rfl rfl)|((with_reducible apply Ev.B5);exact Ev.nilCheck rfl)|((with_reducible apply Ev.x7);exact Ev.t7 rfl rfl ac ac)|((with_reducible apply Ev.B6);first|exact Ev.eql rfl rfl|exact Ev.neq rfl rfl|exact Ev.lss rfl rfl|exact Ev.leq rfl rfl|exact Ev.gtr rfl rfl|exact Ev.geq rfl rfl|exact Ev.add rfl rfl ac ac|exact Ev.sub rfl rfl ac ac|exact Ev.mul rfl rfl ac ac|exact Ev.quo rfl rfl ac ac ac|exact Ev.C0 rfl rfl ac ac ac|exact Ev.rem rfl rfl ac ac|exact Ev.B9 rfl rfl ac|exact Ev.A5 rfl rfl|exact Ev.A1 rfl rfl|exact Ev.v8 rfl rfl|exact Ev.B2 rfl rfl|exact Ev.C4 rfl rfl|exact Ev.C3 rfl rfl|exact Ev.A4 rfl rfl|exact Ev.A0 rfl rfl|exact Ev.B4 rfl rfl (by rfl) (by rfl)|exact Ev.o9 rfl rfl (by rfl) (by rfl))|((with_reducible apply Ev.C5);first|exact Ev.C1 rfl|exact Ev.C2 rfl|exact Ev.not rfl|exact Ev.u9 rfl|exact Ev.neg rfl ac ac)|((with_reducible apply Ev.y8);first|exact Ev.build rfl rfl|exact Ev.A6 rfl rfl)|((with_reducible apply Ev.A9);exact Ev.makeFunc rfl rfl)|((with_reducible apply Ev.y7);first|exact Ev.x9 rfl rfl ac ac|exact Ev.r9 rfl rfl ac ac|exact Ev.v7 rfl rfl rfl ac ac ac|exact Ev.v6 rfl rfl rfl ac ac ac)|((with_reducible apply Ev.B0);first|exact Ev.r7 rfl|exact Ev.A3 rfl|exact Ev.min2 rfl rfl|exact Ev.max2 rfl rfl)|((with_reducible apply Ev.m6);first|exact Ev.fieldAddr rfl|exact Ev.j0 rfl (by first|omega|exact ay rfl)|exact Ev.e9 rfl)|((with_reducible apply Ev.o0);first|exact Ev.l9 rfl ac ac|exact Ev.n9 rfl ac ac|exact Ev.l7 rfl ac ac|exact Ev.conv rfl|exact Ev.l8 rfl (by first|rfl|omega|(simp;first|done|omega)))):φ:=h
theorem wH{φ:Prop}(h:φ:=by first|((with_reducible apply Ev.u6);first|exact Ev.d8 rfl rfl|exact Ev.f7 rfl (by first|omega|exact ay rfl) ae rfl|exact Ev.d7 rfl (by rfl)|exact Ev.e7 rfl (by first|omega|exact ay rfl)|exact Ev.d9 rfl rfl)|((with_reducible apply Ev.l0);first|exact Ev.indexAddr rfl rfl ac (by first|omega|exact ay rfl) (by first|omega|exact ay rfl)|exact Ev.m9 rfl rfl ac ac|exact Ev.o6 rfl rfl (by first|omega|exact ay rfl) ac ac)|((with_reducible apply Ev.m6);first|exact Ev.fieldAddr rfl|exact Ev.j0 rfl (by first|omega|exact ay rfl)|exact Ev.e9 rfl)|((with_reducible apply Ev.o0);first|exact Ev.l9 rfl ac ac|exact Ev.n9 rfl ac ac|exact Ev.l7 rfl ac ac|exact Ev.conv rfl|exact Ev.l8 rfl (by first|rfl|omega|(simp;first|done|omega)))):φ:=h
theorem wG{φ:Prop}(h:φ:=by first|((with_reducible apply Ev.u6);first|exact Ev.d8 rfl rfl|exact Ev.f7 rfl (by first|omega|exact ay rfl) ae rfl|exact Ev.d7 rfl (by rfl)|exact Ev.e7 rfl (by first|omega|exact ay rfl)|exact Ev.d9 rfl rfl)|((with_reducible apply Ev.l0);first|exact Ev.indexAddr rfl rfl ac (by first|omega|exact ay rfl) (by first|omega|exact ay rfl)|exact Ev.g8 rfl rfl ac ac|exact Ev.m9 rfl rfl ac ac|exact Ev.o6 rfl rfl (by first|omega|exact ay rfl) ac ac)|((with_reducible apply Ev.m6);first|exact Ev.fieldAddr rfl|exact Ev.j0 rfl (by first|omega|exact ay rfl)|exact Ev.e9 rfl)|((with_reducible apply Ev.o0);first|exact Ev.l9 rfl ac ac|exact Ev.n9 rfl ac ac|exact Ev.l7 rfl ac ac|exact Ev.conv rfl|exact Ev.l8 rfl (by first|rfl|omega|(simp;first|done|omega)))):φ:=h
theorem run{φ ψ:Prop}(k:ψ)(h:Hid ψ→φ:=by intro k;repeat1' (first|((with_reducible apply GO.d7);first|refine GO.ev wJ ae ?_|refine GO.efB (Ef.l5 rfl) ae ?_|refine GO.efB (Ef.l6 rfl rfl) ae ?_|refine GO.efB (Ef.alloc) ae ?_|refine GO.efB (Ef.lit rfl rfl ae rfl) ae ?_)|((with_reducible apply GO.f8);first|refine GO.g7 rfl rfl ae ?_|refine GO.g8 rfl rfl ae ?_|refine GO.e9 rfl rfl ae ?_)|with_reducible apply GO.nil|((with_reducible apply GO.g9);first|refine GO.d9 (Ef.l0 rfl rfl (by first|omega|exact ay rfl)) ?_|refine GO.d9 (Ef.j0 rfl rfl rfl rfl) ?_|refine GO.d9 (Ef.f9 rfl rfl (by rfl) (by rfl) (by first|exact EncC.one _|simp[Value.oneCell'])) ?_|refine GO.d9 (Ef.g9 rfl rfl (by rfl) rfl (by first|exact EncC.one _|simp[Value.oneCell'])) ?_)|((with_reducible apply GP.f7);first|refine GP.go rfl ?_|refine GP.e8 rfl rfl rfl ae ?_|refine GP.e9 rfl rfl rfl ae ?_|refine GP.e7 rfl rfl rfl ae ?_)|((with_reducible apply GPW.e9);first|refine GPW.evP wI ae ?_|refine GPW.evL wH ae ?_|refine GPW.evP (by((with_reducible apply Ev.l0);exact Ev.g8 rfl rfl ac ac)) ae ?_)|with_reducible apply GP.nil|((with_reducible apply GPW.d7);first|refine GPW.efB (Ef.l5 rfl) ae ?_|refine GPW.efB (Ef.l6 rfl rfl) ae ?_|refine GPW.efB (Ef.alloc) ae ?_|refine GPW.efB (Ef.lit rfl rfl ae rfl) ae ?_)|((with_reducible apply GPW.e8);first|refine GPW.d9 (Ef.l0 rfl rfl (by first|omega|exact ay rfl)) ?_|refine GPW.d9 (Ef.j0 rfl rfl rfl rfl) ?_|refine GPW.d9 (Ef.f9 rfl rfl (by rfl) (by rfl) (by first|exact EncC.one _|simp[Value.oneCell'])) ?_|refine GPW.d9 (Ef.g9 rfl rfl (by rfl) rfl (by first|exact EncC.one _|simp[Value.oneCell'])) ?_)|with_reducible apply GPK.nil|((with_reducible apply GPK.d7);first|refine GPK.drop rfl ?_|refine GPK.keep wG ?_)|with_reducible apply CB.tt|with_reducible apply CB.ff|with_reducible refine CB.pos ac ?_|with_reducible refine CB.neg ac ?_|with_reducible refine CB.pos (by simp;first|done|omega) ?_|with_reducible refine CB.neg (by simp;first|done|omega) ?_|with_reducible apply GB.tt|with_reducible apply GB.ff|with_reducible refine GB.pos ac ?_|with_reducible refine GB.neg ac ?_|with_reducible refine GB.pos (by simp;first|done|omega) ?_|with_reducible refine GB.neg (by simp;first|done|omega) ?_|with_reducible refine KX.l7 ?_|with_reducible refine KX.g8 ?_|with_reducible refine KX.l0 ?_|with_reducible refine KX.l5 ?_|with_reducible refine KX.g9 ?_|with_reducible refine KX.j0 ?_|with_reducible refine KX.d8 ?_|with_reducible refine KX.g7 ae ?_|with_reducible apply G.seq|with_reducible apply G.block|with_reducible apply G.region|with_reducible apply G.skip|with_reducible apply G.exit|with_reducible apply G.ret|refine G.cond rfl ?_);exact Hid.out k):φ:=h ⟨k⟩
end
section
open Go.ChangeShapes Go.WideShapes Go.ChangeAt Go.RowKit
def uY(w:World):HP:=fun ι _=>Hp.sub (gP w) ι
theorem Stars.snoc{L:LH}{ι h:Hp}{p:HP}(s:Stars L ι h)(hp:p ι Hp.emp):Stars (L++[p]) ι h:=by
 induction L generalizing h with
 | nil=>exact⟨ι,Hp.emp,h,Hp.sub.refl _,Hp.d8 _,Hp.d7 _,Hp.sub.refl _,hp,trivial⟩
 | cons q L ih =>
  obtain⟨ι₀,h₁,h₂,a,b,c,d,e,f⟩:=s;exact⟨ι₀,h₁,h₂,a,b,c,d,e,ih f⟩
theorem Tri.law{P:Program}{f:FuncId}{args:Array Value}{L:LH}{v:Value}{post:LH→Prop}(h:Tri P f args L (fun u L'=>u=v∧post L'))(w:World)(hs:Stars L (gP w) Hp.emp) :
  Calls P f args w fun e w'=>e=.returned v∧Below w.heap.size w w':=by
 have s0:Sat ⟨w.tape,w.os,w.output,w.drawn⟩ (L++[uY w]) w:=⟨⟨rfl,rfl,rfl,aB _⟩,gP w,Hp.emp,fun _ _ _=>rfl,Hp.sub.refl _,Hp.d7 _,hs.snoc (Hp.sub.refl _)⟩;refine(h.calls _ _ w s0).mono ?_;rintro e w' ⟨u,L',rfl,⟨rfl,_⟩,s1⟩;refine⟨rfl,?_⟩;have s2:Sat ⟨w.tape,w.os,w.output,w.drawn⟩ (uY w::L') w':=s1.perm (dO _ _);obtain⟨ok,ι,h,a,b1,c,ι₀,h₁,h₂,d1,d2,d3,d4,d5,d6⟩:=s2;have hk:∀k o,w.heap[k]? = some o→w'.heap[k]? = some o:=fun k o hx=>b1 k o (d1 k o (d5 k o hx));refine⟨ok.os,ok.tape,ok.output,?_,fun k hk2=>?_⟩
 ·rcases cg w'.heap.size w.heap.size with hlt|hge
  ·have h1:=hk w'.heap.size _ (Array.getElem?_eq_getElem hlt);rw[Array.getElem?_eq_none (aB _)] at h1;cases h1
  ·exact hge
 ·rw[Array.getElem?_eq_getElem hk2];exact hk k _ (Array.getElem?_eq_getElem hk2)
theorem Au{H:Type}{enc:TypeId×Value→H}{P:Program}{f:Func}{s:ChangeSpec}{apart fresh handsOn:Bool}{W W' : World}{args:Array Value}{v:Value}{ds gs:List (DataW H)}{before pa pv:List MemPlace}
  (hW:DataW.Whole enc P f.params.toList s.vars apart W args.toList ds gs before)
  (hres:∀(b:Nat) (sp:Nat→Bool) (hd:Bool),DataW.TrodAll enc P W' b sp hd f.resultTypes.toList (v.resultList f.resultTypes.size) (s.fn H (ds++gs)).results [])
  (hargs:DataW.TrodAll enc P W' 0 (fun b=>decide (b<W.heap.size)) true f.params.toList args.toList (s.fn H (ds++gs)).args pa)
  (hvars:DataW.TrodVars enc P W' (fun b=>decide (b<W.heap.size)) s.vars (s.fn H (ds++gs)).vars pv)
  (hps:before=pa++pv) (hb:Below W.heap.size W W') :
  s.post enc P f apart fresh handsOn false W args v W':=by
 refine⟨ds,gs,before,[],pa,pv,hW,hres _ _ _,hargs,hvars,World.keptBut_mono (fun p hp=>⟨hp,?_⟩) (hb.frame (·∈before)),fun h=>by cases h⟩;rw[hps,List.mem_append] at hp;exact Or.inr hp
theorem wn{w:World}{k:IntKind}{b off len:Nat}{zs:List Int}(hc:∀i,i<zs.length→w.cell? ⟨b,off+i,none⟩=some (.int k (zs.getD i 0)))(hl:len≤zs.length):isl (encZ k) 1 (some ⟨b,off,none⟩) (zs.take len) (gP w) Hp.emp:=by
 refine⟨fun _ _=>rfl,?_⟩;rcases Nat.eq_zero_or_pos (zs.take len).length with h0|hpos
 ·exact .inl (aW h0)
 right;have hz:0<zs.length:=by simp at hpos;omega
 have h0:=hc 0 hz;cases hb:w.heap[b]? with
 | none=>simp[World.cell?,hb] at h0
 | some o =>
  cases o with
  | cells cur E fz =>
   refine⟨b,off,cur,E,fz,rfl,hb,fun i v hv=>?_⟩;rw[mG] at hv
   have hi:i<(zs.take len).length:=by
    rcases cg i (zs.take len).length with h|h
    ·exact h
    ·rw[List.getElem?_eq_none (by simpa using h)] at hv;cases hv
   have h1:=hc i (by simp at hi;omega);rw[el hb] at h1;rw[h1,←hv];simp only[aY] at hi;simp[show i<len by omega,List.getD,List.getElem?_eq_getElem (show i<zs.length by omega)]
  | _=>simp[World.cell?,hb] at h0
theorem Stars.push{L:LH}{ι:Hp}{p:HP}(hp:p ι Hp.emp)(s:Stars L ι Hp.emp):Stars (p::L) ι Hp.emp:=⟨ι,Hp.emp,Hp.emp,Hp.sub.refl _,Hp.d8 _,Hp.d7 _,Hp.sub.refl _,hp,s⟩
abbrev oA(W:World)(b:Nat):Option Obj:=W.heap[b]?
theorem FJ{H:Type}{enc:TypeId×Value→H}{P:Program}{W:World}{t e:TypeId}{k:IntKind}{ad:OA}{len cap:Nat}{d:DataW H}{p:List MemPlace}(ht:P.underlying t=some (.slice e))(he:P.underlying e=some (.int k))(hc:P.cellsOf e=1)
  (h:DataW.Trod enc P W 0 (fun _=>true) true t (.slice ad len cap) d p):∃xs:List Int,isl (encZ k) 1 ad xs (gP W) Hp.emp∧len=xs.length∧(len≤cap∧cap≤maxLen)∧∀x∈xs,(Lit.int k x).wf=true:=by
 obtain⟨fuel,hf⟩:=h;rcases open_ints ht he hc hf with⟨hcs,hx⟩|⟨a,len',cap',zs,hcs,_,hl,hm,hz,hx,hcell,hwz⟩
 ·simp[Value.cells] at hcs;obtain⟨rfl,rfl,rfl⟩:=hcs;exact⟨[],⟨by simp,.inl rfl⟩,rfl,⟨by simp,by simp⟩,by simp⟩
 ·simp[Value.cells] at hcs;obtain⟨rfl,rfl,rfl⟩:=hcs;simp only[if_true] at hz;refine⟨zs.take len,?_,by simp[aY];omega,⟨hl,hm⟩,fun x hx=>hwz x (cz hx)⟩;rcases Nat.eq_zero_or_pos zs.length with h0|hpos
  ·have:zs=[]:=aW h0;subst this;exact⟨by simp,.inl (by simp)⟩
  ·have h1:=hcell 0 hpos;obtain⟨b,off,spot⟩:=a
   have hs:spot=none:=by
    rw[uN] at h1;unfold World.cell? at h1;cases hb:oA W b with
    | none=>simp[oA] at hb;simp[hb] at h1
    | some o =>
     simp only[oA] at hb;simp only[hb] at h1;cases o with
     | cells c E fz=>cases spot with
      | none=>rfl
      | some x=>simp at h1
     | _=>simp at h1
   subst hs;exact wn (fun i hi=>by rw[←jo];exact hcell i hi) ac
theorem oz{a:Int}(h:(Lit.int .i64 a).wf=true) : -9223372036854775808≤a∧a≤9223372036854775807:=by
 simp[Lit.wf,IntKind.min,IntKind.max,IntKind.signed,IntKind.bits] at h;omega
end
section
structure SlV where
 ad:OA
 n:Nat
 cap:Nat
 deriving Inhabited
def pQ(s:SlV):LV:=[.slice s.ad s.n s.cap]
def upd{α:Type}(f:Int→α)(k:Int)(v:α):Int→α:=fun j=>if j=k then v else f j
def pr{α:Type}(f:Int→α):List α:=[f 0,f 1]
section
variable {P:Program}{env:Env}{L:LH}{ty:TypeId}
structure IsMapClone (P:Program) (f:FuncId):Prop where
 run:∀args w,(callFunc f args).run P w=((Extern.MapsClone.clone args).run P w).andThen fun v w'=>.ok (.value v) w'
