/- Lemmas. -/
import Derived.Test.YtommnllbflbdmaaGreatDoorCata
import Derived.Laws.BytesArg
import Derived.Laws.Strings
import Derived.Laws.MakeOwn
import Derived.ProofKit
import Derived.Carry
import Derived.ChangeSlices
import Derived.ChangeSame
import Derived.OpenShut
import Derived.Laws.Externs
import Derived.MapKept
set_option linter.all false
namespace Go.V
section
section ops
variable {P:Program}{N:Nat}{env:Env}{L:LH}{K:Post}{ty:TypeId}
def qj(pl:List (Nat×Nat)):List (Nat×Value)→LV→Option (LV)
 | [],z=>some z
 | (i,v)::r,z=>match pl[i]?,v.oneCell' with
  | some (off,1),true=>oO z off v fun z'=>qj pl r z'
  | _,_=>none
def sR(pl:List (Nat×Nat)):∀(vs:List (Nat×Value)) (z cs:LV),qj pl vs z=some cs→Instr.fill (fun i=>pl.toArray[i]?) z.toArray vs=some cs.toArray
 | [],z,cs,h=>by simp[qj] at h;simp[Instr.fill,h]
 | (i,v)::r,z,cs,h=>by
  simp only[qj] at h;split at h
  ·rename_i off h1 h2;obtain⟨h3,h4⟩:=rN _ _ _ _ _ h;have ih:=sR pl r _ _ h4;have a0:v.cells=#[v]:=by cases v<;>first|rfl|cases h2
   simp only[Instr.fill,List.getElem?_toArray,h1,a0];have:¬(off+1>z.length):=by omega
   simp[this] at ih ⊢;exact ih
  ·cases h
def nB{P:Program}{w:World}:∀(fs:List Field) (pl:List (Nat×Nat)),fs.map (fun fd=>(fd.offset,(P.info? fd.type).map (·.size)))=pl.map (fun p=>(p.1,some p.2)) →
  (fs.mapM fun (f:Field)=>do pure (f.offset,←sizeOf f.type)).run P w=.ok pl w
 | [],pl,h=>by
  have:pl=[]:=by simpa using h.symm
  simp[this]
 | f::fs,[],h=>by simp at h
 | f::fs,p::pl,h=>by
  simp only[List.map_cons,List.cons.injEq,Prod.mk.injEq] at h;obtain⟨⟨h1,h2⟩,h3⟩:=h;cases hi:P.info? f.type with
  | none=>rw[hi] at h2;cases h2
  | some i =>
   rw[hi] at h2;simp at h2;have ih:=nB (P:=P) (w:=w) fs pl h3;simp at ih;simp[List.mapM_cons,sizeOf,typeInfo,hi,h2];simp[sizeOf,typeInfo] at ih;simp[ih,h1]
def Ev.build{t:TypeId}{ps:Array (Nat×Operand)}{vs:List (Nat×Value)}{pl:List (Nat×Nat)}{z cs:LV}[hs:TyStruct P t pl][hz:ZeroT P t z](hv:kX env ps.toList=some vs)(hc:qj pl vs z=some cs):Ev P L env (.build t ps) ty (.agg cs.toArray) :=
 Ev.mk (fun θ R ρ w ea s _ _ _ _=>by
  obtain⟨z0,h1,h2⟩:=hz.run w;have he:=hs.eq;cases hu:P.underlying t with
  | none=>rw[hu] at he;cases he
  | some dsc =>
   rw[hu] at he;cases dsc<;>simp[rr] at he;rename_i fs;have hm:=nB (P:=P) (w:=w) fs.toList pl (by simpa using he)
   have a0:ps.map (fun p=>(p.1,ρ p.2))=vs.toArray:=by
    apply Array.ext';simpa using ea.pairs ps.toList vs hv
   have a1 : (fs.mapM fun (f:Field)=>do pure (f.offset,←sizeOf f.type)).run P w=.ok pl.toArray w:=by
    have e:fs=fs.toList.toArray:=by simp
    rw[e,List.mapM_toArray];simp only[Sem.run_map,hm,Result.andThen_ok]
   have hf:=sR pl vs z cs hc;simp only[execOp,a0,Instr.build,Sem.run_bind,h1,Result.andThen_ok,run_underlying hu,a1,h2];simp only[hf];simp)
def appK:LV→LV→(LV→Option (LV))→Option (LV)
 | [],r,k=>k r
 | c::l,r,k=>appK l r fun x=>k (c::x)
def litK(sz:Nat):List (Nat×Value)→Nat→(LV→Option (LV))→Option (LV)
 | [],_,k=>k []
 | (j,.agg c)::r,i,k=>match Nat.beq j i,Nat.beq c.size sz with
  | true,true=>litK sz r (i+1) fun x=>appK c.toList x k
  | _,_=>none
 | (j,v)::r,i,k=>match Nat.beq j i,Nat.beq 1 sz with
  | true,true=>litK sz r (i+1) fun x=>k (v::x)
  | _,_=>none
def Bc:∀(a r:LV) (k:LV→Option (LV)),appK a r k=k (a++r)
 | [],_,_=>rfl
 | c::l,r,k=>by simp[appK,Bc l r]
def AP(sz:Nat):∀(vs:List (Nat×Value)) (i:Nat) (k:LV→Option (LV)) (r:LV),litK sz vs i k=some r →
  (∀p∈vs,p.2.cells.size=sz)∧vs.map (·.1)=List.range' i vs.length∧k (vs.flatMap fun p=>p.2.cells.toList)=some r
 | [],_,k,r,h=>by simpa [litK] using h
 | (j,v)::vs,i,k,r,h=>by
  have key:∀(h' : (match Nat.beq j i,Nat.beq v.cells.size sz with|true,true=>litK sz vs (i+1) (fun x=>k (v.cells.toList++x))|_,_=>none)=some r),
    (∀p∈(j,v)::vs,p.2.cells.size=sz)∧((j,v)::vs).map (·.1)=List.range' i ((j,v)::vs).length∧k (((j,v)::vs).flatMap fun p=>p.2.cells.toList)=some r:=by
   intro h';split at h'
   ·rename_i h1 h2;obtain⟨a1,a2,a3⟩:=AP sz vs (i+1) _ r h';have e1:j=i:=Nat.eq_of_beq_eq_true h1;have e2:v.cells.size=sz:=Nat.eq_of_beq_eq_true h2;refine⟨?_,?_,?_⟩
    ·intro p hp;rcases List.mem_cons.1 hp with rfl|hp
     ·exact e2
     ·exact a1 p hp
    ·simp[e1,List.range'_succ,a2]
    ·simpa using a3
   ·cases h'
  apply key;cases v<;>first|(simpa [litK,Bc,Value.cells] using h)
def sP:∀(l:LV) (off k:Nat) (acc:LV),off+k+l.length≤acc.length →
  ((l.zipIdx k).foldl (fun (cs:Array Value) (p:Value×Nat)=>cs.setIfInBounds (off+p.2) p.1) acc.toArray)=(acc.take (off+k)++l++acc.drop (off+k+l.length)).toArray
 | [],off,k,acc,h=>by simp
 | v::l,off,k,acc,h=>by
  simp only[List.zipIdx_cons,List.foldl_cons,List.setIfInBounds_toArray];rw[sP l off (k+1) _ (by simp at h ⊢;omega)];have a0:off+k<acc.length:=by simp at h;omega
  congr 1
  have e1:(acc.set (off+k) v).take (off+(k+1))=acc.take (off+k)++[v]:=by
   rw[show off+(k+1)=off+k+1 by omega,List.take_succ_eq_append_getElem (by simpa using a0),List.take_set_of_le (Nat.le_refl _)];simp
  have e2:(acc.set (off+k) v).drop (off+(k+1)+l.length)=acc.drop (off+k+(l.length+1)):=by
   rw[List.drop_set_of_lt (by omega)];congr 1;omega
  rw[e1,e2];simp
def xE(sz:Nat):∀(vs:List (Nat×Value)) (i:Nat) (acc:LV),(∀p∈vs,p.2.cells.size=sz)→vs.map (·.1)=List.range' i vs.length→acc.length=(i+vs.length)*sz →
  Instr.fill (fun i=>some (i*sz,sz)) acc.toArray vs=some (acc.take (i*sz)++vs.flatMap fun p=>p.2.cells.toList).toArray
 | [],i,acc,_,_,h=>by
  have:acc.take (i*sz)=acc:=List.take_of_length_le (by simp at h;omega);simp[Instr.fill,this]
 | (j,v)::vs,i,acc,h1,h2,h3=>by
  simp only[List.map_cons,List.length_cons,List.range'_succ,List.cons.injEq] at h2;obtain⟨rfl,h2⟩:=h2;have hv:=h1 (j,v) List.mem_cons_self;simp only at hv
  have a1:j*sz+sz≤acc.length:=by
   rw[h3];have h4:(j+1)*sz≤(j+((j,v)::vs).length)*sz:=Nat.mul_le_mul_right _ (by simp);have h5:=Nat.add_mul j 1 sz;omega
  simp only[Instr.fill,hv,ne_eq,not_true_eq_false,List.size_toArray];have a2:¬(j*sz+sz>acc.length):=by omega
  simp only[decide_false,Bool.false_or,gt_iff_lt,decide_eq_true_eq];rw[if_neg (by omega)]
  have a0:(v.cells.zipIdx.foldl (fun cs x=>match x with|(c,k)=>cs.setIfInBounds (j*sz+k) c) acc.toArray)=(acc.take (j*sz)++v.cells.toList++acc.drop (j*sz+sz)).toArray:=by
   have:=sP v.cells.toList (j*sz) 0 acc (by simp[hv];omega)
   rw[←Array.foldl_toList];simp only[Array.toList_zipIdx];simp only[Nat.add_zero,Array.length_toList,hv] at this;exact this
  rw[a0]
  rw[xE sz vs (j+1) _ (fun p hp=>h1 p (List.mem_cons_of_mem _ hp)) h2 (by
   simp only[List.length_append,List.length_take,Array.length_toList,hv,List.length_drop];simp only[List.length_cons] at h3;have e:(j+1+vs.length)*sz=(j+(vs.length+1))*sz:=by congr 1;omega
   rw[e,←h3];omega)]
  have e1:(acc.take (j*sz)++v.cells.toList++acc.drop (j*sz+sz)).take ((j+1)*sz)=acc.take (j*sz)++v.cells.toList:=by
   rw[List.take_append_of_le_length (by simp[hv,Nat.add_mul];omega)];apply List.take_of_length_le;simp[hv,Nat.add_mul];omega
  rw[e1];simp
def Ef.lit{t:TypeId}{len:Nat}{ps:Array (Nat×Operand)}{vs:List (Nat×Value)}{E sz bb:Nat}{z cs:LV}[ht:TySl P t E sz bb z](hv:kX env ps.toList=some vs)(hn:vs.length=len)(hl:len*sz≤16777216)(hc:litK sz vs 0 some=some cs)
  : Ef P L env (.buildSlice t len ps) ty (fun v L'=>∃b,v=.slice (some ⟨b,0,none⟩) len len∧L' = obj b E cs::L):=by
 obtain⟨a1,a2,a3⟩:=AP sz vs 0 some cs hc;refine Ef.buildSlice hv hl ?_;simp only[ry,Option.map_eq_some_iff];have e:(Array.range (len*sz)).map (z.toArray[· % z.length]!)=((List.range (len*sz)).map (z.toArray[· % z.length]!)).toArray:=by apply Array.ext';simp
 rw[e,xE sz vs 0 _ a1 (by rw[a2]) (by simp[hn])];simp only[Option.some.injEq] at a3;exact⟨_,rfl,by simp[a3]⟩
def advA(ad:OA)(cap sz k:Nat):OA:=if cap=k then ad else ad.map (·.add (k*sz))
def Ev.u6{t:TypeId}{x hi:Operand}{ad:OA}{n c E sz bb:Nat}{z:LV}{k:IntKind}{j:Int}[ht:TySl P t E sz bb z](hx:evE env x=some (.slice ad n c))(hh:evE env hi=some (.int k j))(h0:0≤j)(h1:j≤c):Ev P L env (.slice t x none (some hi) none) ty (.slice ad j.toNat c) :=
 Ev.mk (fun _ _ _ w ea _ _ _ _ _=>by
  obtain⟨ii,z0,i1,i2,i3,i4,i5⟩:=ht.parts;simp[execOp,aP ea hx,aP ea hh,Instr.sliceAt,Instr.slice,run_underlying ht.under,Instr.sliceBounds,Instr.sliceBound,asIntOf,h0,h1,sizeOf,typeInfo,i1];intro;cases ad<;>simp[Addr.add])
def Ev.r4{t:TypeId}{x lo:Operand}{ad:OA}{n c E sz bb:Nat}{z:LV}{k:IntKind}{j:Int}[ht:TySl P t E sz bb z](hx:evE env x=some (.slice ad n c))(hl:evE env lo=some (.int k j))(h0:0≤j)(h1:j≤n):Ev P L env (.slice t x (some lo) none none) ty (.slice (advA ad c sz j.toNat) (n - j.toNat) (c - j.toNat)) :=
 Ev.mk (fun _ _ _ w ea _ _ _ _ _=>by
  obtain⟨ii,z0,i1,i2,i3,i4,i5⟩:=ht.parts;simp[execOp,aP ea hx,aP ea hl,Instr.sliceAt,Instr.slice,run_underlying ht.under,Instr.sliceBounds,Instr.sliceBound,asIntOf,h0,h1,sizeOf,typeInfo,i1,i4,advA])
def Ev.t7{t:TypeId}{x lo hi:Operand}{ad:OA}{n c E sz bb:Nat}{z:LV}{k k' : IntKind}{i j:Int}[ht:TySl P t E sz bb z](hx:evE env x=some (.slice ad n c))(hl:evE env lo=some (.int k i))(hh:evE env hi=some (.int k' j))(h0:0≤i)(h1:i≤j)(h2:j≤c):Ev P L env (.slice t x (some lo) (some hi) none) ty (.slice (advA ad c sz i.toNat) (j.toNat - i.toNat) (c - i.toNat)) :=
 Ev.mk (fun _ _ _ w ea _ _ _ _ _=>by
  obtain⟨ii,z0,i1,i2,i3,i4,i5⟩:=ht.parts;have hj:0≤j:=by omega
  have a1:i≤(j.toNat:Int):=by omega
  have a0 : i≤max j 0:=by omega
  simp[execOp,aP ea hx,aP ea hl,aP ea hh,Instr.sliceAt,Instr.slice,run_underlying ht.under,Instr.sliceBounds,Instr.sliceBound,asIntOf,h0,hj,h2,a0,sizeOf,typeInfo,i1,i4,advA])
def RdSl.drop{α:Type}{w:World}{enc:α→LV}{sz:Nat}{ad:OA}{xs:List α}(h:RdSl w enc sz ad xs){cap:Nat}(hc:xs.length≤cap)(k:Nat):RdSl w enc sz (advA ad cap sz k) (xs.drop k):=by
 obtain⟨h1,h2⟩:=h;refine⟨fun x hx=>h1 x (List.mem_of_mem_drop hx),?_⟩;by_cases hk:xs.length≤k
 ·exact .inl (List.drop_eq_nil_of_le hk)
 ·rcases h2 with h2|⟨a,rfl,h3⟩
  ·subst h2;simp at hk
  ·refine .inr ⟨a.add (k*sz),?_,?_⟩
   ·have:¬cap=k:=by omega
    simp[advA,this]
   ·intro i v hv
    have e:(a.add (k*sz)).add i=a.add (k*sz+i):=by
     unfold Addr.add;(repeat' split)<;>first|rfl|omega|(simp;omega)|(simp_all;done)
    rw[e];apply h3;have a0:xs.flatMap enc=(xs.take k).flatMap enc++(xs.drop k).flatMap enc:=by rw[←List.flatMap_append,List.take_append_drop]
    have a1:((xs.take k).flatMap enc).length=k*sz:=by
     rw[fe (fun x hx=>h1 x (List.mem_of_mem_take hx)),List.length_take,Nat.min_eq_left (by omega)]
    rw[a0,List.getElem?_append_right (by omega),a1];rw[show k*sz+i - k*sz=i by omega];exact hv
def RdSl.take{α:Type}{w:World}{enc:α→LV}{sz:Nat}{ad:OA}{xs:List α}(h:RdSl w enc sz ad xs)(k:Nat):RdSl w enc sz ad (xs.take k):=by
 obtain⟨h1,h2⟩:=h;refine⟨fun x hx=>h1 x (List.mem_of_mem_take hx),?_⟩;rcases h2 with h2|⟨a,rfl,h3⟩
 ·exact .inl (by simp[h2])
 ·refine .inr ⟨a,rfl,fun i v hv=>h3 i v ?_⟩;have a0:xs.flatMap enc=(xs.take k).flatMap enc++(xs.drop k).flatMap enc:=by rw[←List.flatMap_append,List.take_append_drop]
  rw[a0,List.getElem?_append_left (List.getElem?_eq_some_iff.1 hv).1];exact hv
theorem Rds.drop{α:Type}{enc:α→LV}{sz:Nat}{ad:OA}{xs:List α}(h:Rds L ad α enc sz xs){cap:Nat}(hc:xs.length≤cap)(k:Nat):Rds L (advA ad cap sz k) α enc sz (xs.drop k):=⟨fun θ R w s=>(h.rd θ R w s).drop hc k⟩
theorem Rds.take{α:Type}{enc:α→LV}{sz:Nat}{ad:OA}{xs:List α}(h:Rds L ad α enc sz xs)(k:Nat):Rds L ad α enc sz (xs.take k):=⟨fun θ R w s=>(h.rd θ R w s).take k⟩
def omap{α:Type}(enc:α→Value)(b:Nat)(m:List (Int×α)):HP:=fun _ h =>
 ∃es a0,h b=some (.map es a0)∧es.toList.map (fun e=>(e.key,e.val))=m.map (fun p=>(Value.int .i64 p.1,enc p.2))∧(m.map (·.1)).Nodup∧es.size≤a0∧(∀e∈es,e.born<a0)∧(es.toList.map (·.born)).Nodup
class PickMap (L:LH) (b:Nat) (α:outParam Type) (enc:outParam (α→Value)) (m:outParam (List (Int×α))) (R:outParam (LH)):Prop where
 perm:L.Perm (omap enc b m::R)
def ains{α:Type}(m:List (Int×α))(k:Int)(a:α):List (Int×α):=if m.any (fun p=>p.1 == k) then m.map (fun p=>if p.1=k then(k,a) else p) else m++[(k,a)]
def aera{α:Type}(m:List (Int×α))(k:Int):List (Int×α):=m.filter (fun p=>!(p.1 == k))
def Sat.omap_parts{α:Type}{θ:Th}{enc:α→Value}{b:Nat}{m:List (Int×α)}{L:LH}{w:World}(s:Sat θ (omap enc b m::L) w) :
  ∃es a0,es.toList.map (fun e=>(e.key,e.val))=m.map (fun p=>(Value.int .i64 p.1,enc p.2))∧(m.map (·.1)).Nodup∧es.size≤a0∧(∀e∈es,e.born<a0)∧(es.toList.map (·.born)).Nodup∧Sat θ (own b (.map es a0)::L) w:=by
 obtain⟨ok,ι,h,a,b1,c,ι₀,h₁,h₂,d1,d2,d3,d4,⟨es,a0,e1,e2,e3,e4,e5,e6⟩,d6⟩:=s;exact⟨es,a0,e2,e3,e4,e5,e6,ok,ι,h,a,b1,c,ι₀,h₁,h₂,d1,d2,d3,d4,e1,d6⟩
def Sat.d9{α:Type}{θ:Th}{enc:α→Value}{b:Nat}{m:List (Int×α)}{L:LH}{w:World}{es:Array MapEntry}{a0:Nat}(s:Sat θ (own b (.map es a0)::L) w)
  (h1:es.toList.map (fun e=>(e.key,e.val))=m.map (fun p=>(Value.int .i64 p.1,enc p.2))) (h2:(m.map (·.1)).Nodup) (h3:es.size≤a0) (h4:∀e∈es,e.born<a0) (h5:(es.toList.map (·.born)).Nodup):Sat θ (omap enc b m::L) w:=by
 obtain⟨ok,ι,h,a,b1,c,ι₀,h₁,h₂,d1,d2,d3,d4,d5,d6⟩:=s;exact⟨ok,ι,h,a,b1,c,ι₀,h₁,h₂,d1,d2,d3,d4,⟨es,a0,d5,h1,h2,h3,h4,h5⟩,d6⟩
def Ef.makeMap{t:TypeId}{α:Type}(enc:α→Value):Ef P L env (.makeMap t none) ty (fun v L'=>∃b,v=.map (some b)∧L' = omap enc b []::L) :=
 Ef.val (fun θ R a w ea s a0 pos af g=>⟨_,w.alloc (.map #[] 0),_,by simp[execOp,Instr.makeMap],⟨_,rfl,rfl⟩,Sat.d9 s.alloc (by simp) (by simp) (by simp) (by simp) (by simp)⟩)
def nG{α:Type}{enc:α→Value}{kk:IntKind}(k:Int):∀(es:List MapEntry) (m:List (Int×α)) (i:Nat),es.map (fun e=>(e.key,e.val))=m.map (fun p=>(Value.int .i64 p.1,enc p.2)) →
  Instr.findNow (.int kk) (.int .i64 k) es i=some ((m.findIdx? (fun p=>p.1 == k)).map fun j=>(i+j,(m[j]?.map (fun p=>enc p.2)).getD undef))
 | [],[],i,_=>by simp[Instr.findNow]
 | [],_::_,_,h=>by simp at h
 | _::_,[],_,h=>by simp at h
 | e::es,p::m,i,h=>by
  simp only[List.map_cons,List.cons.injEq,Prod.mk.injEq] at h;obtain⟨⟨h1,h2⟩,h3⟩:=h;have ih:=nG (kk:=kk) k es m (i+1) h3;simp only[Instr.findNow,h1,Instr.sameNow,if_true];by_cases hk:k=p.1
  ·subst hk;simp[List.findIdx?_cons,h2]
  ·have hb:(k == p.1)=false:=by simpa using hk
   have a0 : (p.1 == k)=false:=by simpa using fun h=>hk h.symm
   simp only[hb,ih,List.findIdx?_cons,a0];cases List.findIdx? (fun p=>p.1 == k) m<;>simp;omega
def lx{t:TypeId}{k:IntKind}{kk:IntKind}{n:Int}{w:World}{b:Bool}(h:P.underlying t=some (.int kk)):(Instr.checkKey b 10000 t (.int k n)).run P w=.ok () w:=by
 have:∀m,(Instr.checkKey b (m+1) t (.int k n)).run P w=.ok () w:=fun m=>by simp[Instr.checkKey,run_underlying h]
 exact this 9999
class TyKeyI (P:Program) (T:Nat) (E:outParam Nat) (z:outParam Value):Prop where
 ok:∃K k,P.underlying T=some (.map K E)∧P.underlying K=some (.int k)∧(P.info? E).map (·.zero)=some (some z)
def iG{w:World}{b:Nat}{es a0 : Array MapEntry}{c c' : Nat}(hb:w.heap[b]? = some (.map es c)):(setObj b (.map a0 c')).run P w=.ok () { w with heap:=w.heap.setIfInBounds b (.map a0 c') }:=by simp[setObj,Sem.run,hb]
def Sat.setMap{θ:Th}{b:Nat}{o o' : Obj}{L:LH}{w:World}(s:Sat θ (own b o::L) w):Sat θ (own b o'::L) { w with heap:=w.heap.setIfInBounds b o' }:=by
 have hb:=s.own_heap;have a0:=(Array.getElem?_eq_some_iff.1 hb).1;refine s.update ⟨s.1.tape,s.1.os,s.1.output,s.1.drawn⟩ ?_ (fun k x hk hx=>?_)
 ·simp[a0]
 ·simp only;rw[Array.getElem?_setIfInBounds_ne (Ne.symm hk)];exact hx
def Fs{α:Type}{m:List (Int×α)}{k:Int}{a:α}(h:(m.map (·.1)).Nodup):((ains m k a).map (·.1)).Nodup:=by
 unfold ains;split
 ·rw[List.map_map]
  have:(fun p:Int×α=>(if p.1=k then(k,a) else p).1)=(·.1):=by
   funext p;split
   ·rename_i h;exact h.symm
   ·rfl
  show((m.map ((·.1) ∘ fun p=>if p.1=k then(k,a) else p))).Nodup;rw[show((·.1) ∘ fun p:Int×α=>if p.1=k then(k,a) else p)=(fun p:Int×α=>(if p.1=k then(k,a) else p).1) from rfl,this];exact h
 ·rename_i hn;rw[List.map_append,List.nodup_append];refine⟨h,by simp,?_⟩;intro x hx y hy;simp at hy;subst hy;rintro rfl;apply hn;obtain⟨p,hp,rfl⟩:=List.mem_map.1 hx;exact List.any_eq_true.2 ⟨p,hp,by simp⟩
def tV{α:Type}{m:List (Int×α)}{k:Int}{j:Nat}(h:m.findIdx? (fun p=>p.1 == k)=some j):m.any (fun p=>p.1 == k)=true:=by
 obtain⟨a0,h1,_⟩:=List.findIdx?_eq_some_iff_getElem.1 h;exact List.any_eq_true.2 ⟨m[j],List.getElem_mem a0,h1⟩
def ma{α:Type}{k:Int}{a:α}:∀{m:List (Int×α)} {j:Nat},(m.map (·.1)).Nodup→m.findIdx? (fun p=>p.1 == k)=some j→m.map (fun p=>if p.1=k then(k,a) else p)=m.set j (k,a)
 | [],j,_,h=>by simp at h
 | p::m,j,hn,h=>by
  simp only[List.map_cons,List.nodup_cons] at hn;rw[List.findIdx?_cons] at h;by_cases hk:p.1=k
  ·simp[hk] at h;subst h;simp only[List.map_cons,hk,if_true,List.set_cons_zero,List.cons.injEq,true_and];rw[List.map_congr_left (g:=id),List.map_id];intro q hq;have:q.1≠k:=fun e=>hn.1 (by rw[hk,←e];exact List.mem_map_of_mem hq);simp[this]
  ·have hb:(p.1 == k)=false:=by simpa using hk
   simp only[hb] at h;obtain⟨i,hi,rfl⟩:=Option.map_eq_some_iff.1 h;simp only[List.map_cons,hk,if_false,List.set_cons_succ,List.cons.injEq,true_and];exact ma hn.2 hi
def Ef.mapUpdate{t:TypeId}{x y z' : Operand}{b E:Nat}{z v:Value}{α:Type}{enc:α→Value}{m:List (Int×α)}{Rest:LH}{k:Int}(e:α)[ht:TyKeyI P t E z][hp:PickMap L b α enc m Rest](hx:evE env x=some (.map (some b)))(hy:evE env y=some (.int .i64 k))(hz:evE env z' = some v)(hv:v=enc e)
  : Ef P L env (.mapUpdate t x y z') ty (fun _ L'=>L' = omap enc b (ains m k e)::Rest) :=
 Ef.skip (fun θ R a w ea s b2 pos af g=>by
  subst hv;obtain⟨K,kk,h1,h2,h3⟩:=ht.ok;obtain⟨es,a0,e1,e2,e3,e4,e5,s2⟩:=(s.perm (hp.perm.append_right R)).omap_parts;have hb:=s2.own_heap;have hf:=nG (kk:=kk) k es.toList m 0 e1;have a1:(getObj b).run P w=.ok (.map es a0) w:=by simp[getObj,Sem.run,hb]
  have a8:=Fs (k:=k) (a:=e) e2;cases hj:m.findIdx? (fun p=>p.1 == k) with
  | none =>
   rw[hj] at hf;simp only[Option.map_none] at hf
   have b0:m.any (fun p=>p.1 == k)=false:=by
    rw[List.findIdx?_eq_none_iff] at hj;simpa using hj
   refine⟨_,_,?_,rfl,Sat.d9 (s2.setMap (o':=.map (es.push { key:=.int .i64 k,val:=enc e,born:=a0 }) (a0+1))) ?_ a8 ?_ ?_ ?_⟩
   ·simp[execOp,aP ea hx,aP ea hy,aP ea hz,Instr.mapUpdate,run_underlying h1,a1,lx h2,Instr.findKey,run_underlying h2,hf,iG hb]
   ·simp[e1,ains,b0]
   ·simp;omega
   ·intro x hx;rcases Array.mem_push.1 hx with hx|rfl
    ·have:=e4 x hx;omega
    ·simp
   ·simp only[Array.toList_push,List.map_append,List.map_cons,List.map_nil];rw[List.nodup_append];refine⟨e5,by simp,?_⟩;intro x hx y hy;simp at hy;subst hy;obtain⟨q,hq,rfl⟩:=List.mem_map.1 hx;have:=e4 q (by simpa using hq)
    omega
  | some j =>
   rw[hj] at hf;simp only[Option.map_some,Nat.zero_add] at hf;have a4:=tV hj;have a6:=ma (a:=e) e2 hj;obtain⟨a3,a7,_⟩:=List.findIdx?_eq_some_iff_getElem.1 hj
   have b3:es.size=m.length:=by
    have:=congrArg List.length e1
    simpa using this
   have a5:((es[j]?).map (·.key)).getD (Value.int .i64 k)=.int .i64 k:=by
    have h5:=congrArg (fun l=>l[j]?) e1;simp only[List.getElem?_map,List.getElem?_eq_getElem a3,Array.getElem?_toList] at h5;rw[Array.getElem?_eq_getElem (by omega)] at h5 ⊢;simp at h5 ⊢;rw[h5.1];simp at a7;rw[a7]
   have b1:(Instr.keyThatStays (((es[j]?).map (·.key)).getD (Value.int .i64 k)) (.int .i64 k)).run P w=.ok (.int .i64 k) w:=by
    rw[a5]
    have:Instr.sameBits 10000 (.int .i64 k) (.int .i64 k)=true:=by
     show Instr.sameBits (9999+1) (.int .i64 k) (.int .i64 k)=true;simp[Instr.sameBits]
    simp[Instr.keyThatStays,this]
   refine⟨_,_,?_,rfl,Sat.d9 (s2.setMap (o':=.map (es.modify j fun x=>{ x with key:=.int .i64 k,val:=enc e }) a0)) ?_ a8 ?_ ?_ ?_⟩
   ·simp[execOp,aP ea hx,aP ea hy,aP ea hz,Instr.mapUpdate,run_underlying h1,a1,lx h2,Instr.findKey,run_underlying h2,hf,b1,iG hb]
   ·simp only[ains,a4,if_true,a6];rw[Array.toList_modify];apply List.ext_getElem?;intro i;have h5:=congrArg (fun l=>l[i]?) e1;simp only[List.getElem?_map] at h5;simp only[List.getElem?_map,List.getElem?_modify,List.getElem?_set];by_cases a2:j=i
    ·subst a2;have a9:j<es.toList.length:=by simp;omega
     simp[a3,List.getElem?_eq_getElem a9]
    ·simp only[a2,if_false];cases hq:es.toList[i]? with
     | none=>rw[hq] at h5;simpa using h5
     | some q=>rw[hq] at h5;simpa using h5
   ·simpa using e3
   ·intro x hx;obtain⟨i,hi,rfl⟩:=Array.mem_iff_getElem.1 hx;rw[Array.getElem_modify];have h6:es[i]'(by simpa using hi)∈es:=Array.getElem_mem _;split
    ·exact e4 (es[i]'(by simpa using hi)) h6
    ·exact e4 _ h6
   ·have:(es.modify j fun x=>{ x with key:=.int .i64 k,val:=enc e }).toList.map (·.born)=es.toList.map (·.born):=by
     rw[Array.toList_modify];apply List.ext_getElem?;intro i;simp only[List.getElem?_map,List.getElem?_modify];by_cases a2:j=i
     ·subst a2;cases es.toList[j]?<;>simp
     ·simp[a2]
    rw[this];exact e5)
def yg{α:Type}{k:Int}:∀{m:List (Int×α)} {j:Nat},(m.map (·.1)).Nodup→m.findIdx? (fun p=>p.1 == k)=some j→aera m k=m.eraseIdx j
 | [],j,_,h=>by simp at h
 | p::m,j,hn,h=>by
  simp only[List.map_cons,List.nodup_cons] at hn;rw[List.findIdx?_cons] at h;by_cases hk:p.1=k
  ·simp[hk] at h;subst h;simp only[aera,List.filter_cons,hk,beq_self_eq_true,Bool.not_true,Bool.false_eq_true,if_false,List.eraseIdx_zero,List.tail_cons];apply List.filter_eq_self.2;intro q hq;have:q.1≠k:=fun e=>hn.1 (by rw[hk,←e];exact List.mem_map_of_mem hq);simp[this]
  ·have hb:(p.1 == k)=false:=by simpa using hk
   simp only[hb] at h;obtain⟨i,hi,rfl⟩:=Option.map_eq_some_iff.1 h;have ih:=yg hn.2 hi;simp only[aera,List.filter_cons,hb,Bool.not_false,if_true,List.eraseIdx_cons_succ,List.cons.injEq,true_and];exact ih
def jN{β γ:Type}(f:β→γ):∀(l:List β) (j:Nat),(l.eraseIdx j).map f=(l.map f).eraseIdx j
 | [],j=>by simp
 | x::l,0=>by simp
 | x::l,j+1=>by simp[jN f l j]
def Ef.delete{t kt:TypeId}{x y:Operand}{b E:Nat}{z:Value}{α:Type}{enc:α→Value}{m:List (Int×α)}{Rest:LH}{k:Int}[ht:TyKeyI P t E z][hp:PickMap L b α enc m Rest](hx:evE env x=some (.map (some b)))(hy:evE env y=some (.int .i64 k))
  : Ef P L env (.call { callee:=.builtin .delete,args:=#[x,y],argTypes:=#[t,kt] }) ty (fun _ L'=>L' = omap enc b (aera m k)::Rest) :=
 Ef.val (fun θ R a w ea s a7 pos af g=>by
  obtain⟨K,kk,h1,h2,h3⟩:=ht.ok;obtain⟨es,a0,e1,e2,e3,e4,e5,s2⟩:=(s.perm (hp.perm.append_right R)).omap_parts;have hb:=s2.own_heap;have hf:=nG (kk:=kk) k es.toList m 0 e1;have a1:(getObj b).run P w=.ok (.map es a0) w:=by simp[getObj,Sem.run,hb]
  have a5:((aera m k).map (·.1)).Nodup:=e2.sublist ((List.filter_sublist).map _)
  have a9:es.size=m.length:=by
   have:=congrArg List.length e1
   simpa using this
  cases hj:m.findIdx? (fun p=>p.1 == k) with
  | none =>
   rw[hj] at hf;simp only[Option.map_none] at hf;have a3:=List.findIdx?_eq_none_iff.1 hj;have he:aera m k=m:=List.filter_eq_self.2 fun p hp=>by simp[a3 p hp]
   refine⟨.tuple #[],_,_,?_,rfl,Sat.d9 (s2.setMap (o':=.map es a0)) (by rw[he];exact e1) a5 e3 e4 e5⟩;simp[execOp,resolve,invoke,builtin,aP ea hx,aP ea hy,Builtin.delete_,run_underlying h1,a1,lx h2,Instr.findKey,run_underlying h2,hf,iG hb]
  | some j =>
   rw[hj] at hf;simp only[Option.map_some,Nat.zero_add] at hf;have a4:=yg e2 hj;obtain⟨a6,a8,_⟩:=List.findIdx?_eq_some_iff_getElem.1 hj
   have a2:(es.eraseIdxIfInBounds j).toList=es.toList.eraseIdx j:=by
    simp[Array.eraseIdxIfInBounds,show j<es.size by omega]
   refine⟨.tuple #[],_,_,?_,rfl,Sat.d9 (s2.setMap (o':=.map (es.eraseIdxIfInBounds j) a0)) ?_ a5 ?_ ?_ ?_⟩
   ·simp[execOp,resolve,invoke,builtin,aP ea hx,aP ea hy,Builtin.delete_,run_underlying h1,a1,lx h2,Instr.findKey,run_underlying h2,hf,iG hb]
   ·rw[a2,a4,jN,jN,e1]
   ·have h7:(es.eraseIdxIfInBounds j).size=(es.toList.eraseIdx j).length:=by rw[←a2,Array.length_toList]
    have h8:(es.toList.eraseIdx j).length≤es.toList.length:=List.length_eraseIdx_le es.toList j;have h9:es.toList.length=es.size:=Array.length_toList;omega
   ·intro x hx;have:x∈es.toList.eraseIdx j:=by rw[←a2];exact Array.mem_toList_iff.2 hx
    exact e4 x (by simpa using List.mem_of_mem_eraseIdx this)
   ·rw[a2,jN];exact e5.sublist (List.eraseIdx_sublist _ _))
end ops
end
section
class PickHP (L:LH) (A:HP) (R:outParam (LH)):Prop where
 perm:L.Perm (A::R)
instance (A:HP)(L:LH):PickHP (A::L) A L:=⟨List.Perm.refl _⟩
instance (A B:HP)(L R:LH)[h:PickHP L A R]:PickHP (B::L) A (B::R):=⟨(h.perm.cons B).trans (List.Perm.swap _ _ _)⟩
def Ent.take{L R pre R' : LH}{A:HP}[h:PickHP L A R](hr:Ent R (pre++R')):Ent L ((A::pre)++R'):=(Ent.perm h.perm).trans hr.cons
def Ent.o6{L R L' : LH}{A:HP}[h:PickHP L A R](hr:Ent R L'):Ent L (A::L'):=(Ent.perm h.perm).trans hr.cons
def Ef.d9{P:Program}{env:Env}{L:LH}{f:FuncId}{xs:Array Operand}{ats:Array TypeId}{ty:TypeId}{vs:LV}{post:Value→LH→Prop}
  (c:Tri P f vs.toArray L post) (hv:fT env xs.toList=some vs):Ef P L env (.call { callee:=.value (.func f),args:=xs,argTypes:=ats }) ty post:=by
 have h:=Ef.call (R':=[]) (L:=L) (ats:=ats) (ty:=ty) c hv (by rw[List.append_nil];exact Ent.refl _);intro θ R a w o next Q ha s h1 h2 hn
 refine h θ R a w o next Q ha s h1 h2 ?_
 rintro v L' w' ⟨L₁,hp,rfl⟩ s';rw[List.append_nil] at s';exact hn v L₁ w' hp s'
def Ent.mk{L L' : LH}(h:∀θ R w,Sat θ (L++R) w→Sat θ (L'++R) w):Ent L L':=h
def Ent.sat{L L' : LH}(h:Ent L L'){θ:Th}{R:LH}{w:World}(s:Sat θ (L++R) w):Sat θ (L'++R) w:=h θ R w s
def Ent.o9{A B:HP}{L:LH}(h:∀θ R w,Sat θ (A::R) w→Sat θ (B::R) w):Ent (A::L) (B::L):=fun θ R w s=>h θ (L++R) w s
section at_
variable {P:Program}{N:Nat}{env:Env}{L:LH}{K:Post}{ty:TypeId}{v:Value}
def Ev.A0{x:Operand}(h:Ev P L env (.move x) ty v):Ev P L env (.move x) ty v:=h
def Ev.u5{x:Operand}(h:Ev P L env (.assign x) ty v):Ev P L env (.assign x) ty v:=h
def Ev.z8{a b c:Operand}(h:Ev P L env (.pick a b c) ty v):Ev P L env (.pick a b c) ty v:=h
def Ev.r9{x:Operand}{i:Nat}(h:Ev P L env (.extract x i) ty v):Ev P L env (.extract x i) ty v:=h
def Ev.A9{o:BinOp}{t yt:TypeId}{x y:Operand}(h:Ev P L env (.binOp o t x y yt) ty v):Ev P L env (.binOp o t x y yt) ty v:=h
def Ev.B8{o:UnOp}{t:TypeId}{x:Operand}(h:Ev P L env (.unOp o t x) ty v):Ev P L env (.unOp o t x) ty v:=h
def Ev.o9{s t:TypeId}{x:Operand}(h:Ev P L env (.convert s t x) ty v):Ev P L env (.convert s t x) ty v:=h
def Ev.A8{x:Operand}(h:Ev P L env (.nilCheck x) ty v):Ev P L env (.nilCheck x) ty v:=h
def Ev.n9{s f:Nat}{x:Operand}(h:Ev P L env (.fieldAddr s x f) ty v):Ev P L env (.fieldAddr s x f) ty v:=h
def Ev.r8{t:TypeId}{x:Operand}(h:Ev P L env (.load t x) ty v):Ev P L env (.load t x) ty v:=h
def Ev.l7{t:TypeId}{x i:Operand}(h:Ev P L env (.indexAddr t x i) ty v):Ev P L env (.indexAddr t x i) ty v:=h
def Ev.u9{t:TypeId}{ps:Array (Nat×Operand)}(h:Ev P L env (.build t ps) ty v):Ev P L env (.build t ps) ty v:=h
def Ev.u7{t:TypeId}{x:Operand}{a b c:Option Operand}(h:Ev P L env (.slice t x a b c) ty v):Ev P L env (.slice t x a b c) ty v:=h
def Ev.A2{c:Call}(h:Ev P L env (.call c) ty v):Ev P L env (.call c) ty v:=h
def Ev.A1{fn:Fn}{fs cs:Array Operand}(h:Ev P L env (.makeFunc fn fs cs) ty v):Ev P L env (.makeFunc fn fs cs) ty v:=h
variable {ops:Array Oper}{rest:List Oper}{op:Op}{pos:String}{af:Array Edge}
def GO.d7{d:Nat}(h:GO P N ops (⟨some d,op,ty,pos,af,none⟩::rest) env L K):GO P N ops (⟨some d,op,ty,pos,af,none⟩::rest) env L K:=h
def GO.l0(h:GO P N ops (⟨none,op,ty,pos,af,none⟩::rest) env L K):GO P N ops (⟨none,op,ty,pos,af,none⟩::rest) env L K:=h
def GO.e9{d j:Nat}{b:Bool}(h:GO P N ops (⟨some d,op,ty,pos,af,some (j,b)⟩::rest) env L K):GO P N ops (⟨some d,op,ty,pos,af,some (j,b)⟩::rest) env L K:=h
variable {done:List Nat}{plan:List Stp}{pend:List PE}{i:Nat}
def GP.f8{s:Stp}(h:GP P N ops done (s::plan) pend env L K):GP P N ops done (s::plan) pend env L K:=h
def GPW.d9{d:Nat}(h:GPW P N ops done (.ev i) plan (some d) op ty pend env L K):GPW P N ops done (.ev i) plan (some d) op ty pend env L K:=h
def GPW.e7{d:Nat}(h:GPW P N ops done (.ef i) plan (some d) op ty pend env L K):GPW P N ops done (.ef i) plan (some d) op ty pend env L K:=h
def GPW.d8(h:GPW P N ops done (.ef i) plan none op ty pend env L K):GPW P N ops done (.ef i) plan none op ty pend env L K:=h
def GPK.d7{pe:PE}{ts acc:List PE}(h:GPK P N ops done i plan (pe::ts) acc env L K):GPK P N ops done i plan (pe::ts) acc env L K:=h
def G.l8(id:Nat){l:Array Oper}{dr:Bool}{x y:Code}(h:G P N (.seq (.seq (.region id l dr) x) y) env L K):G P N (.seq (.seq (.region id l dr) x) y) env L K:=h
def G.atS(id:Nat){l:Array Oper}{dr:Bool}{y:Code}(h:G P N (.seq (.region id l dr) y) env L K):G P N (.seq (.region id l dr) y) env L K:=h
def G.d7{id:Nat}{l:List Oper}(h:G P N (.region id l.toArray true) env L K):G P N (.region id l.toArray true) env L K:=h
end at_
end
section
section
variable {P:Program}{N:Nat}{env:Env}{L:LH}{K:Post}
def G.e8{c:Code}{φ:Prop}(h:∀θ R w,Sat θ (L++R) w→φ)(k:φ→G P N c env L K):G P N c env L K:=fun r θ Y a w hr i=>let ⟨_,_,_,s⟩:=i;k (h θ _ w s) r θ Y a w hr i
def GO.d8{a0:Array Oper}{l:List Oper}{φ:Prop}(h:∀θ R w,Sat θ (L++R) w→φ)(k:φ→GO P N a0 l env L K):GO P N a0 l env L K:=fun r θ Y a w hr i=>let ⟨_,_,_,s⟩:=i;k (h θ _ w s) r θ Y a w hr i
def G.ent{c:Code}{L' : LH}(hl:Ent L L')(h:G P N c env L' K):G P N c env L K:=h.conseq (EnvSub.refl _) hl
def GO.ent{a0:Array Oper}{l:List Oper}{L' : LH}(hl:Ent L L')(h:GO P N a0 l env L' K):GO P N a0 l env L K:=h.conseq (EnvSub.refl _) hl
def GP.ent{a1:Array Oper}{done:List Nat}{plan:List Stp}{a0:List PE}{L' : LH}(hl:Ent L L')(h:GP P N a1 done plan a0 env L' K):GP P N a1 done plan a0 env L K:=fun hK hp hs a2 θ Y a w S i a3 a4=>h hK hp hs a2 θ Y a w S (i.less (EnvSub.refl _) hl) a3 a4
def GPW.ent{a2:Array Oper}{done:List Nat}{plan:List Stp}{a0:List PE}{L' : LH}{s:Stp}{a1:Option Tmp}{op:Op}{ty:TypeId}(hl:Ent L L')(h:GPW P N a2 done s plan a1 op ty a0 env L' K):GPW P N a2 done s plan a1 op ty a0 env L K:=fun pos af g h1 h2=>GP.ent hl (h pos af g h1 h2)
def G.d8{α:Type}{x y:Code}(Inv:α→Prop)(e:α→Env)(l:α→LH)(h:G P N x env L (K.seq fun env' L'=>∃g,Inv g∧EnvSub env' (e g)∧Ent L' (l g)))(h' : ∀g,Inv g→G P N y (e g) (l g) K):G P N (.seq x y) env L K :=
 G.mid _ h (by rintro env' L' ⟨g,h1,h2,h3⟩;exact(h' g h1).conseq h2 h3)
def G.less{c:Code}{env' : Env}(he:EnvSub env env')(h:G P N c env' L K):G P N c env L K:=h.conseq he (Ent.refl _)
def G.e7{α:Type}{c:Code}{f:α→LH}(h:∀x,G P N c env (f x++L) K):G P N c env (hex (fun x=>cY (f x))::L) K:=G.open_ (φ:=fun _=>True) (L':=fun x=>f x++L) (fun θ R w s =>
 let ⟨x,s1⟩:=Sat.ofHex (show Sat θ (hex (fun x=>cY (f x))::(L++R)) w from s);⟨x,trivial,by rw[List.append_assoc];exact s1.ofStars⟩) (fun x _=>h x)
def GO.l5{α:Type}{a0:Array Oper}{l:List Oper}{f:α→LH}(h:∀x,GO P N a0 l env (f x++L) K):GO P N a0 l env (hex (fun x=>cY (f x))::L) K:=GO.open_ (φ:=fun _=>True) (L':=fun x=>f x++L) (fun θ R w s =>
 let ⟨x,s1⟩:=Sat.ofHex (show Sat θ (hex (fun x=>cY (f x))::(L++R)) w from s);⟨x,trivial,by rw[List.append_assoc];exact s1.ofStars⟩) (fun x _=>h x)
def Ent.l7{α:Type}{f:α→LH}{R:LH}(x:α)(h:Ent L (f x++R)):Ent L (hex (fun x=>cY (f x))::R):=fun θ R' w s=>by
 have s1:=h θ R' w s;rw[List.append_assoc] at s1;exact Sat.e8 (f:=fun x=>cY (f x)) x (Sat.d7 s1)
def Ent.pure{φ:Prop}{L' : LH}(hφ:φ)(h:Ent L L'):Ent L (dy φ::L'):=fun θ R w s=>Sat.addPure (h θ R w s) hφ
def G.e9{c:Code}{φ:Prop}(h:φ→G P N c env L K):G P N c env (dy φ::L) K:=G.open_ (φ:=fun _:Unit=>φ) (L':=fun _=>L) (fun θ R w s=>⟨(),Sat.ofPure (show Sat θ (dy φ::(L++R)) w from s),s.tail⟩) (fun _=>h)
def GO.l8{a0:Array Oper}{l:List Oper}{φ:Prop}(h:φ→GO P N a0 l env L K):GO P N a0 l env (dy φ::L) K:=GO.open_ (φ:=fun _:Unit=>φ) (L':=fun _=>L) (fun θ R w s=>⟨(),Sat.ofPure (show Sat θ (dy φ::(L++R)) w from s),s.tail⟩) (fun _=>h)
def Ent.dup{A:HP}(hA:Pers A):Ent (A::L) (A::A::L):=fun _ _ _ s=>Sat.dup hA s
def Ent.freezeSl{α:Type}{enc:α→LV}{sz E:Nat}{ad:OA}{cap:Nat}{xs:List α}:Ent (osl enc sz E ad cap xs::L) (isl enc sz ad xs::L):=fun _ _ _ s=>Sat.freezeSl s
def Ent.e9{α:Type}{enc:α→LV}{sz E b:Nat}{cs:LV}{xs:List α}{n:Nat}(hc:cs=xs.flatMap enc)(hn:xs.length=n)(hs:∀x∈xs,(enc x).length=sz)(hm:n≤9223372036854775807):Ent (obj b E cs::L) (osl enc sz E (some ⟨b,0,none⟩) n xs::L):=fun θ R w s=>by
 subst hc hn;exact Sat.osl_mk (show Sat θ (own b (.cells (xs.flatMap enc).toArray E (0,0))::(L++R)) w from s) hs (Nat.le_refl _) (by simp only[maxLen];omega) (by simp[fe hs]) (List.take_of_length_le (by rw[fe hs];exact Nat.le_refl _))
def Ent.d8{α:Type}(enc:α→LV)(sz E:Nat):Ent L (osl enc sz E none 0 []::L):=fun _ _ _ s=>Sat.e9 enc sz E s
def Ent.f8{α:Type}(enc:α→LV)(sz:Nat)(ad:OA):Ent L (isl enc sz ad []::L):=fun θ R w s=>by
 obtain⟨ok,ι,h',a,b1,c,d⟩:=s;exact⟨ok,ι,h',a,b1,c,Hp.emp,Hp.emp,h',Hp.d7 _,Hp.d8 _,Hp.d7 _,Hp.sub.refl _,⟨by simp,.inl rfl⟩,d⟩
def nO{α:Type}{enc:α→LV}{sz:Nat}{xs:List α}[h:Rds L none α enc sz xs]:∀θ R w,Sat θ (L++R) w→xs=[]:=fun θ R w s=>by
 rcases (h.rd θ R w s).2 with h|⟨a,ha,_⟩
 ·exact h
 ·cases ha
def gg{α:Type}{enc:α→LV}{sz E:Nat}{ad:OA}{cap:Nat}{xs:List α}{R' : LH}[h:PickOsl L ad α enc sz E cap xs R']:∀θ R w,Sat θ (L++R) w→xs.length≤cap∧cap≤9223372036854775807:=fun θ R w s=>by
 have:=(s.perm (h.perm.append_right R)).osl_parts
 simp only[maxLen] at this;exact⟨this.2.1,by omega⟩
def allP{α:Type}(f:α→HP)(l:List α):HP:=fun ι _=>∀x∈l,f x ι Hp.emp
def Ent.e7{α:Type}(f:α→HP):Ent L (allP f []::L):=fun θ R w s=>by
 obtain⟨ok,ι,h',a,b1,c,d⟩:=s;exact⟨ok,ι,h',a,b1,c,Hp.emp,Hp.emp,h',Hp.d7 _,Hp.d8 _,Hp.d7 _,Hp.sub.refl _,(by intro x hx;cases hx),d⟩
structure PersM (A:HP):Prop where
 pers:Pers A
 mono:∀ι ι' h,Hp.sub ι ι'→A ι h→A ι' h
def bI{α:Type}(enc:α→LV)(sz:Nat)(ad:OA)(xs:List α):PersM (isl enc sz ad xs):=⟨lF enc sz ad xs,fun ι ι' h hs hi=>by
 obtain⟨h1,h2⟩:=hi;refine⟨h1,?_⟩;rcases h2 with h2|⟨g,off,a0,E,fz,f1,f2,f3⟩
 ·exact .inl h2
 ·exact .inr ⟨g,off,a0,E,fz,f1,hs _ _ f2,f3⟩⟩
def Ent.l6{α:Type}{f:α→HP}{l l' : List α}(h:∀x∈l',x∈l):Ent (allP f l::L) (allP f l'::L):=fun θ R w s=>by
 obtain⟨ok,ι,h',a,b1,c,ι₀,h₁,h₂,d1,d2,d3,d4,d5,d6⟩:=s;exact⟨ok,ι,h',a,b1,c,ι₀,h₁,h₂,d1,d2,d3,d4,fun x hx=>d5 x (h x hx),d6⟩
def Ent.g9{α:Type}{f:α→HP}(hf:∀x,PersM (f x)){x:α}{l:List α}:Ent (f x::allP f l::L) (allP f (x::l)::L):=fun θ R w s=>by
 obtain⟨ok,ι,h',a,b1,c,ι₁,h₁,h₂,d1,d2,d3,d4,d5,ι₂,h₃,h₄,e1,e2,e3,e4,e5,e6⟩:=s;refine⟨ok,ι,h',a,b1,c,ι,Hp.emp,h₄,Hp.sub.refl _,Hp.d8 _,Hp.d7 _,e4.trans d4,?_,e6⟩;intro y hy;rcases List.mem_cons.1 hy with rfl|hy
 ·exact(hf _).mono _ _ _ d1 ((hf _).pers _ _ d5)
 ·exact(hf _).mono _ _ _ e1 (e5 y hy)
def Ent.j0{α:Type}{f:α→HP}(hf:∀x,PersM (f x)){l l' : List α}:Ent (allP f l::allP f l'::L) (allP f (l++l')::L):=fun θ R w s=>by
 obtain⟨ok,ι,h',a,b1,c,ι₁,h₁,h₂,d1,d2,d3,d4,d5,ι₂,h₃,h₄,e1,e2,e3,e4,e5,e6⟩:=s;refine⟨ok,ι,h',a,b1,c,ι,Hp.emp,h₄,Hp.sub.refl _,Hp.d8 _,Hp.d7 _,e4.trans d4,?_,e6⟩;intro y hy;rcases List.mem_append.1 hy with hy|hy
 ·exact(hf _).mono _ _ _ d1 (d5 y hy)
 ·exact(hf _).mono _ _ _ e1 (e5 y hy)
def Ent.l0{α:Type}{f:α→HP}(hf:∀x,PersM (f x)){x:α}:Ent (f x::L) (allP f [x]::L):=fun θ R w s=>by
 obtain⟨ok,ι,h',a,b1,c,ι₁,h₁,h₂,d1,d2,d3,d4,d5,d6⟩:=s;refine⟨ok,ι,h',a,b1,c,ι₁,h₁,h₂,d1,d2,d3,d4,?_,d6⟩;intro y hy;simp at hy;subst hy;exact(hf _).pers _ _ d5
def Ent.d9{α:Type}{f:α→HP}{l:List α}{x:α}(h:x∈l):Ent (allP f l::L) (f x::allP f l::L):=fun θ R w s=>by
 obtain⟨ok,ι,h',a,b1,c,ι₁,h₁,h₂,d1,d2,d3,d4,d5,d6⟩:=s;exact⟨ok,ι,h',a,b1,c,ι₁,Hp.emp,h',d1,Hp.d8 _,Hp.d7 _,Hp.sub.refl _,d5 x h,ι₁,h₁,h₂,d1,d2,d3,d4,d5,d6⟩
def Ent.frz{α:Type}{enc:α→LV}{sz E:Nat}(ad:OA){cap:Nat}{xs:List α}{R:LH}[h:PickOsl L ad α enc sz E cap xs R]:Ent L (isl enc sz ad xs::R):=(Ent.perm h.perm).trans Ent.freezeSl
def Ent.at{A:HP}{R L' : LH}[h:PickHP L A R](hr:Ent (A::R) L'):Ent L L':=(Ent.perm h.perm).trans hr
def Ent.swap{A B:HP}:Ent (A::B::L) (B::A::L):=Ent.perm (List.Perm.swap _ _ _)
def Ent.d7{A:HP}{L' : LH}(h:Ent L L'):Ent (A::L) (A::L'):=h.cons
end
def ResOk.cell{P:Program}{N:Nat}{env:Env}{L Rest:LH}{rs:List ResultVar}{vs cs:LV}{x b T n:Nat}{t:TypeId}[ht:TyAgg P t n][hp:PickObj L b T cs Rest](h:env.lookup x=some (.pointer (some ⟨b,0,none⟩)))(hn:cs.length=n)(hr:ResOk P N env L rs vs):ResOk P N env L (.cell x t::rs) (.agg cs.toArray::vs):=by
 intro θ R a w ea s g h1 h2;have h3:=ea.at_ x _ h;have hb:=s.obj_heap hp.perm;have hl:=run_loadCells_list (P:=P) w ⟨b,0,none⟩ cs (fun j v hv=>by rw[gB,eV hb];simpa using hv);rw[hn] at hl;simp[List.mapM_cons,hr θ R a w ea s g h1 h2,h2,h3,asAddr,loadVar,ht.run,TyAgg.sizeOf_run,hl]
def ResOk.d7{P:Program}{N:Nat}{env:Env}{L Rest:LH}{rs:List ResultVar}{vs:LV}{v:Value}{x b T:Nat}{t:TypeId}[ht:TyOne P t][hp:PickObj L b T [v] Rest](h:env.lookup x=some (.pointer (some ⟨b,0,none⟩)))(hr:ResOk P N env L rs vs):ResOk P N env L (.cell x t::rs) (v::vs):=by
 intro θ R a w ea s g h1 h2;have h3:=ea.at_ x _ h;have hb:=s.obj_heap hp.perm;simp[List.mapM_cons,hr θ R a w ea s g h1 h2,h2,h3,asAddr,loadVar,ht.run,eV hb]
def bigO{α:Type}(f:α→HP)(l:List α):HP:=cY (l.map f)
def Ent.l8{α:Type}(f:α→HP){L:LH}:Ent L (bigO f []::L):=fun _ _ _ s=>Sat.d7 (A:=[]) s
def Ent.m6{α:Type}{f:α→HP}{x:α}{l:List α}{L:LH}:Ent (f x::bigO f l::L) (bigO f (l++[x])::L):=fun θ R w s=>by
 have s1:Sat θ (bigO f l::f x::(L++R)) w:=s.perm (List.Perm.swap _ _ _);have s2:=Sat.ofStars s1;refine Sat.d7 (A:=(l++[x]).map f) ?_;simpa using s2
def Ent.m9{α:Type}{f:α→HP}{x:α}{l:List α}{L:LH}:Ent (f x::bigO f l::L) (bigO f (x::l)::L):=fun θ R w s=>by
 have s1:Sat θ (bigO f l::f x::(L++R)) w:=s.perm (List.Perm.swap _ _ _);have s2:=Sat.ofStars s1;refine Sat.d7 (A:=(x::l).map f) ?_;exact s2.perm List.perm_middle
def Ent.bigO_uncons{α:Type}{f:α→HP}{x:α}{l:List α}{L:LH}:Ent (bigO f (x::l)::L) (f x::bigO f l::L):=fun θ R w s=>by
 have s2:Sat θ (f x::(l.map f++(L++R))) w:=Sat.ofStars (A:=(x::l).map f) s;have s3:Sat θ (l.map f++(f x::(L++R))) w:=s2.perm List.perm_middle.symm;exact(Sat.d7 (A:=l.map f) s3).perm (List.Perm.swap _ _ _)
def Ent.m5{α:Type}{f g:α→HP}(hg:∀x,PersM (g x))(h:∀x L,Ent (f x::L) (g x::L)):∀(l:List α) (L:LH),Ent (bigO f l::L) (allP g l::L)
 | [],_=>(Ent.drop).trans (Ent.e7 g)
 | x::l,L=>(Ent.bigO_uncons).trans ((h x _).trans ((Ent.d7 (Ent.m5 hg h l L)).trans (Ent.g9 hg)))
def encZ(k:IntKind)(x:Int):LV:=[.int k x]
def Gs(k:IntKind)(x:Int):∀u∈encZ k x,u.oneCell' = true:=by simp[encZ,Value.oneCell']
def nF{α:Type}(f:α→Value)(xs:List α):xs.flatMap (fun x=>[f x])=xs.map f:=by
 induction xs with
 | nil=>rfl
 | cons x xs ih=>simp[ih]
end
section
class TyBool (P:Program) (T:Nat):Prop where
 under:P.underlying T=some .bool
section
variable {P:Program}{env:Env}{L:LH}{ty:TypeId}
def oV{t:TypeId}{a b:Bool}{w:World}{n:Nat}(he:P.underlying t=some .bool):(Op.equalIn (n+1) t (.bool a) (.bool b)).run P w=.ok (a == b) w:=by
 simp[Op.equalIn,run_underlying he]
def Ev.B7{t yt:TypeId}{x y:Operand}{φ ψ:Prop}[Decidable φ][Decidable ψ][ht:TyBool P t](hx:evE env x=some (.bool (dB φ)))(hy:evE env y=some (.bool (dB ψ))):Ev P L env (.binOp .neq t x y yt) ty (.bool (dB (¬(φ↔ψ)))) :=
 Ev.mk (fun _ _ _ w ea _ _ _ _ _=>by
  have h1:=kN (P:=P) (w:=w) (fun n=>oV (n:=n) (a:=dB φ) (b:=dB ψ) ht.under)
  have h2:(!(dB φ == dB ψ))=dB (¬(φ↔ψ)):=by
   rw[eY,eY,eY];by_cases h:φ<;>by_cases h' : ψ<;>simp[h,h']
  simp[execOp,aP ea hx,aP ea hy,eqGuard,binOp,h1,h2])
def Ev.v8{t yt:TypeId}{x y:Operand}{φ ψ:Prop}[Decidable φ][Decidable ψ][ht:TyBool P t](hx:evE env x=some (.bool (dB φ)))(hy:evE env y=some (.bool (dB ψ))):Ev P L env (.binOp .eql t x y yt) ty (.bool (dB (φ↔ψ))) :=
 Ev.mk (fun _ _ _ w ea _ _ _ _ _=>by
  have h1:=kN (P:=P) (w:=w) (fun n=>oV (n:=n) (a:=dB φ) (b:=dB ψ) ht.under)
  have h2:(dB φ == dB ψ)=dB (φ↔ψ):=by
   rw[eY,eY,eY];by_cases h:φ<;>by_cases h' : ψ<;>simp[h,h']
  simp[execOp,aP ea hx,aP ea hy,eqGuard,binOp,h1,h2])
def yb(a b:ByteArray):(a.toList == b.toList)=decide (a=b):=by
 rw[ByteArray.toList_eq,ByteArray.toList_eq];cases a with|mk a=>cases b with|mk b =>
 by_cases h:a=b
 ·subst h;simp
 ·simp[h]
def Ev.y8{t yt:TypeId}{x y:Operand}{a b:ByteArray}(hx:evE env x=some (.string a))(hy:evE env y=some (.string b)):Ev P L env (.binOp .eql t x y yt) ty (.bool (dB (a=b))) :=
 Ev.mk (fun _ _ _ w ea _ _ _ _ _=>by
  simp[execOp,aP ea hx,aP ea hy,eqGuard,binOp,Op.stringOp,eY,yb])
def Ev.x8{t yt:TypeId}{x y:Operand}{a b:ByteArray}(hx:evE env x=some (.string a))(hy:evE env y=some (.string b)):Ev P L env (.binOp .neq t x y yt) ty (.bool (dB (¬a=b))) :=
 Ev.mk (fun _ _ _ w ea _ _ _ _ _=>by
  simp[execOp,aP ea hx,aP ea hy,eqGuard,binOp,Op.stringOp,eY,yb])
def nv(xs:List Int)(k:IntKind):xs.flatMap (encZ k)=xs.map (Value.int k):=nF _ xs
def Ev.n5{s t:TypeId}{x:Operand}{ad:OA}{n c E sz bb:Nat}{z:LV}{xs:List Int}[hs:TySl P s E sz bb z][he:TyInt P E .u8][ht:TyStr P t][hr:Rds L ad Int (encZ .u8) 1 xs](hx:evE env x=some (.slice ad n c))(hn:n=xs.length) :
  Ev P L env (.convert s t x) ty (.string (strOfNums xs)) :=
 Ev.mk (fun θ R _ w ea st _ _ _ _=>by
  subst hn;obtain⟨h1,h2⟩:=hr.rd θ R w st
  have hc:(convert s t (.slice ad xs.length c)).run P w=.ok (.string (strOfNums xs)) w:=by
   rw[run_convert_bytes_string w s t E ad xs.length c hs.under he.under ht.under];rcases h2 with rfl|⟨a,rfl,h3⟩
   ·cases ad with
    | none=>simp[Conv.bytesToString,strOfNums];rfl
    | some a =>
     have hl:(loadCells a 0).run P w=.ok (([]:List Int).map (Value.int .u8)).toArray w:=by simp[loadCells,loadCellsFrom]
     exact(run_bytesToString w a 0 c [] hl).trans (by simp[strOfNums];rfl)
   ·rw[nv] at h3;have hl:=run_loadCells_list (P:=P) w a (xs.map (Value.int .u8)) h3;rw[List.length_map] at hl;rw[run_bytesToString w a xs.length c xs hl,foldl_push_bytes];simp[strOfNums,ByteArray.empty,ByteArray.emptyWithCapacity];rfl
  simp[execOp,aP ea hx,hc])
def sx{α:Type}[Inhabited α](f:Nat→α)(x:α)(n:Nat)(h:∀i,i<n→f i=x):(Array.range n).map f=(List.replicate n x).toArray:=by
 apply Array.ext
 ·simp
 ·intro i h1 h2;simp at h1 ⊢;exact h i h1
def Ef.makeSlice{t:TypeId}{x y:Operand}{E bb:Nat}{z0:Value}{α:Type}(enc:α→LV)(e:α){n:Int}[ht:TySl P t E 1 bb [z0]](hx:evE env x=some (.int .i64 n))(hy:evE env y=some (.int .i64 n))(he:enc e=[z0])(h0:0≤n)(h1:n*bb≤16777216)(h2:n≤1000000000) :
  Ef P L env (.makeSlice t x y) ty (fun v L'=>∃b,v=.slice (some ⟨b,0,none⟩) n.toNat n.toNat∧L' = osl enc 1 E (some ⟨b,0,none⟩) n.toNat (List.replicate n.toNat e)::L) :=
 Ef.val (fun θ R a w ea s a0 pos af g=>⟨.slice (some ⟨w.heap.size,0,none⟩) n.toNat n.toNat,w.alloc (.cells (List.replicate n.toNat z0).toArray E),_,by
  obtain⟨ii,zz,i1,i2,i3,i4,i5⟩:=ht.parts
  have hz:zz.cells=#[z0]:=by
   have:=i3
   apply Array.ext';simpa using this
  have hm:madeCells zz.cells (n.toNat*ii.size)=(List.replicate n.toNat z0).toArray:=by
   rw[hz,i4,Nat.mul_one];exact sx _ _ _ (fun i _=>by simp[Nat.mod_one])
  have hk:=run_make (P:=P) w t E ii zz ht.under i1 i2 .i64 .i64 n n h0 (Int.le_refl _) (by rw[i5,Int.mul_comm];omega) (by omega);rw[hm] at hk
  simp[execOp,aP ea hx,aP ea hy,hk],⟨_,rfl,rfl⟩,by
   have s1:=s.alloc (o:=.cells (List.replicate n.toNat z0).toArray E);refine Sat.osl_mk (enc:=enc) (sz:=1) (cap:=n.toNat) (xs:=List.replicate n.toNat e) (L:=L++R) s1 ?_ (by simp) (by simp only[maxLen];omega) (by simp) ?_
   ·intro x hx;rw[List.eq_of_mem_replicate hx,he];rfl
   ·have:∀k,(List.replicate k e).flatMap enc=List.replicate k z0:=by
     intro k;induction k with
     | zero=>rfl
     | succ k ih=>rw[List.replicate_succ,List.flatMap_cons,ih,he];rfl
    rw[this];simp⟩)
def Ef.ent{op:Op}{L' : LH}{post:Value→LH→Prop}(h:Ent L L')(k:Ef P L' env op ty post):Ef P L env op ty post:=fun θ R a w o next Q ha s h1 h2 hn=>k θ R a w o next Q ha (h θ R w s) h1 h2 hn
def xA{α:Type}[Inhabited α]{enc:α→LV}{sz o:Nat}{e:α}{v:Value}:∀{xs:List α} {j:Nat},(∀x∈xs,(enc x).length=sz)→j<xs.length→o<sz→enc e=(enc xs[j]!).set o v→(xs.set j e).flatMap enc=(xs.flatMap enc).set (j*sz+o) v
 | [],j,_,hj,_,_=>by simp at hj
 | x::xs,0,h,_,ho,he=>by
  have hx:=h x (by simp);simp only[List.set_cons_zero,List.flatMap_cons,Nat.zero_mul,Nat.zero_add];rw[List.set_append,if_pos (by omega),he];simp
 | x::xs,j+1,h,hj,ho,he=>by
  have hx:=h x (by simp);simp only[List.set_cons_succ,List.flatMap_cons];have e1:¬((j+1)*sz+o<(enc x).length):=by rw[hx,Nat.succ_mul];omega
  rw[List.set_append,if_neg e1];have e2:(j+1)*sz+o - (enc x).length=j*sz+o:=by rw[hx,Nat.succ_mul];omega
  rw[e2,xA (fun y hy=>h y (by simp[hy])) (by simpa using hj) ho (by simpa using he)]
def Ef.l7{t:TypeId}{x y:Operand}{ad:OA}{sz j o E cap:Nat}{α:Type}[Inhabited α]{enc:α→LV}{xs:List α}{Rest:LH}{v:Value}(e:α)[ht:TyOne P t][hp:PickOsl L ad α enc sz E cap xs Rest]
  (hx:evE env x=some (.pointer (elP ad sz j o))) (hy:evE env y=some v) (he:enc e=(enc xs[j]!).set o v) (h1:v.oneCell' = true) (hj:j<xs.length) (ho:o<sz) :
  Ef P L env (.store t x y) ty (fun _ L'=>L' = osl enc sz E ad cap (xs.set j e)::Rest) :=
 Ef.skip (fun θ R ρ w ea s a9 pos af g=>by
  have s1:=s.perm (hp.perm.append_right R);obtain⟨p1,p2,p3,p4⟩:=Sat.osl_parts s1;rcases p4 with⟨rfl,rfl⟩|⟨gb,a1,rfl,f1,f2,f3⟩
  ·omega
  ·have hb:w.heap[gb]? = some (.cells a1 E (0,0)):=f3.own_heap
   have a5:j*sz+o<xs.length*sz:=by
    have:(j+1)*sz≤xs.length*sz:=Nat.mul_le_mul_right _ hj
    rw[Nat.succ_mul] at this;omega
   have a6:j*sz+o<a1.size:=by
    have:=Nat.mul_le_mul_right sz p2
    omega
   have a3:∀y∈xs.set j e,(enc y).length=sz:=by
    intro y a8;rcases List.mem_or_eq_of_mem_set a8 with h|h
    ·exact p1 y h
    ·subst h;rw[he,List.length_set];exact p1 _ (by rw[List.getElem!_eq_getElem?_getD,List.getElem?_eq_getElem hj];exact List.getElem_mem _)
   have a0:w.cell? ⟨gb,j*sz+o,none⟩=some a1[j*sz+o]:=by rw[eV hb];simp[a6]
   have a4:w.frozen? ⟨gb,j*sz+o,none⟩=false:=by simp[World.frozen?,hb]
   have a2:v.cells=#[v]:=by cases v<;>first|rfl|cases h1
   refine⟨w.setCell ⟨gb,j*sz+o,none⟩ v,_,?_,rfl,?_⟩
   ·have a7 : evE env x=some (.pointer (some ⟨gb,j*sz+o,none⟩)):=by rw[hx];simp only[elP,Option.map_some,gB]
    simp[execOp,aP ea a7,aP ea hy,Instr.storeAt,Instr.sureAddr,storeVar,TyOne.sizeOf_run,a2,storeCells,Addr.add,run_store _ _ _ _ _ h1,a0,a4]
   ·have s3:Sat θ (own gb (.cells (a1.setIfInBounds (j*sz+o) v) E (0,0))::(Rest++R)) (w.setCell ⟨gb,j*sz+o,none⟩ v):=by
     refine Sat.update f3 ⟨s.1.tape,s.1.os,s.1.output,s.1.drawn⟩ ?_ (fun k x hk hx=>by rw[lW v hk];exact hx);rw[ml v hb]
    refine Sat.osl_mk (L:=Rest++R) s3 a3 (by simpa using p2) p3 (by simpa using f1) ?_;rw[xA p1 hj ho he,←f2];simp[List.take_set])
def Ef.l9{t:TypeId}{x y:Operand}{ad:OA}{j E cap:Nat}{k:IntKind}{n:Int}{xs:List Int}{Rest:LH}[ht:TyOne P t][hp:PickOsl L ad Int (encZ k) 1 E cap xs Rest]
  (hx:evE env x=some (.pointer (elP ad 1 j 0))) (hy:evE env y=some (.int k n)) (hj:j<xs.length) :
  Ef P L env (.store t x y) ty (fun _ L'=>L' = osl (encZ k) 1 E ad cap (xs.set j n)::Rest):=Ef.l7 n hx hy rfl rfl hj (by omega)
def Ev.n7{s t:TypeId}{x:Operand}{k:IntKind}{a:Int}[hs:TyInt P s k][ht:TyInt P t .i64](hx:evE env x=some (.int k a))(h0 : -9223372036854775808≤a)(h1:a≤9223372036854775807):Ev P L env (.convert s t x) ty (.int .i64 a):=by
 have:=Ev.conv (P:=P) (L:=L) (ty:=ty) (s:=s) (t:=t) hx
 rwa [IntWalk.i64_in a ⟨h0,h1⟩] at this
def Ev.o8{s t:TypeId}{x:Operand}{k:IntKind}{a:Int}[hs:TyInt P s k][ht:TyInt P t .u8](hx:evE env x=some (.int k a))(h0:0≤a)(h1:a≤255):Ev P L env (.convert s t x) ty (.int .u8 a):=by
 have:=Ev.conv (P:=P) (L:=L) (ty:=ty) (s:=s) (t:=t) hx
 rwa [IntWalk.u8_in a ⟨h0,h1⟩] at this
def Ev.m9{s t:TypeId}{x:Operand}{k:IntKind}{a:Int}[hs:TyInt P s k][ht:TyInt P t .u64](hx:evE env x=some (.int k a))(h0:0≤a)(h1:a≤18446744073709551615):Ev P L env (.convert s t x) ty (.int .u64 a):=by
 have:=Ev.conv (P:=P) (L:=L) (ty:=ty) (s:=s) (t:=t) hx
 rwa [IntWalk.u64_in a ⟨h0,h1⟩] at this
end
end
section
section
variable {P:Program}{N:Nat}{env:Env}{L:LH}{K:Post}{ops:Array Oper}{rest:List Oper}{d i:Nat}{op:Op}{ty:TypeId}{pos:String}{af:Array Edge}{X:LH}{f:Nat→Value}{g:Nat→LH}{done:List Nat}{plan:List Stp}{pend:List PE}
def GO.d9(he:Ef P L env op ty (fun _ L'=>L' = X))(h:GO P N ops rest env X K):GO P N ops (⟨none,op,ty,pos,af,none⟩::rest) env L K:=GO.efu he (by rintro _ _ rfl;exact h)
def GO.efB(he:Ef P L env op ty (fun v L'=>∃b,v=f b∧L' = g b))(hd:d<N)(h:∀b,GO P N ops rest ((d,f b)::env) (g b) K):GO P N ops (⟨some d,op,ty,pos,af,none⟩::rest) env L K:=GO.ef he hd (by rintro _ _⟨b,rfl,rfl⟩;exact h b)
def GPW.d7(he:Ef P L env op ty (fun _ L'=>L' = X))(h:GPK P N ops done i plan pend [] env X K):GPW P N ops done (.ef i) plan none op ty pend env L K:=GPW.efu he (by rintro _ _ rfl;exact h)
def GPW.efB(he:Ef P L env op ty (fun v L'=>∃b,v=f b∧L' = g b))(hd:d<N)(h:∀b,GPK P N ops done i plan pend [] ((d,f b)::env) (g b) K):GPW P N ops done (.ef i) plan (some d) op ty pend env L K:=GPW.ef he hd (by rintro _ _⟨b,rfl,rfl⟩;exact h b)
end
class En (P:Program) (f:FuncId) (fn:outParam Func) (N:outParam Nat):Prop where
 en:Enters P f
 hf:P.funcs[f]? = some fn
 hN:fn.ntmps=N
def Tri.bd{P:Program}{f:FuncId}{fn:Func}{c:Code}{args:LV}{L:LH}{post:Value→LH→Prop}{rs:List ResultVar}{N:Nat}[e:En P f fn N](h:G P N c (env0 args 0) L (Ends P N rs post))(hb:fn.body=some c:=by exact rfl)(hr:fn.results=rs.toArray:=by exact rfl)(hn:args.length≤N:=by simp):Tri P f args.toArray L post:=Tri.body N e.en e.hf hb hr e.hN hn h
def KX.en{P:Program}{N:Nat}{env:Env}{L:LH}{rs:List ResultVar}{post:Value→LH→Prop}{vs:LV}{L' : LH}(h3:post (resV vs) L')(h1:ResOk P N env L rs vs:=by exact ResOk.tmps rfl)(h2:Ent L L':=by repeat (first|exact Ent.refl _|exact Ent.nil _|refine Ent.o6 ?_|refine Ent.trans Ent.drop ?_)):Ends P N rs post .ret env L:=KX.d7 h1 h2 h3
def GO.ca{P:Program}{N:Nat}{env:Env}{L:LH}{K:Post}{d:Nat}{f:FuncId}{xs:Array Operand}{ats:Array TypeId}{ty:TypeId}{vs:LV}{post:Value→LH→Prop}{a0:Array Oper}{rest:List Oper}{pos:String}{af:Array Edge}(c:Tri P f vs.toArray L post)(h:∀v L',post v L'→GO P N a0 rest ((d,v)::env) L' K)(hv:fT env xs.toList=some vs:=by exact rfl)(hd:d<N:=by decide):GO P N a0 (⟨some d,.call {callee:=.value (.func f),args:=xs,argTypes:=ats},ty,pos,af,none⟩::rest) env L K:=GO.ef (Ef.d9 c hv) hd h
def GO.cr{P:Program}{N:Nat}{env:Env}{L:LH}{K:Post}{d:Nat}{f:FuncId}{xs:Array Operand}{ats:Array TypeId}{ty:TypeId}{vs:LV}{a0:Array Oper}{rest:List Oper}{pos:String}{af:Array Edge}{a:Value}{M:LH}(c:Tri P f vs.toArray L (fun v L'=>v=a∧L' = M))(h:GO P N a0 rest ((d,a)::env) M K)(hv:fT env xs.toList=some vs:=by exact rfl)(hd:d<N:=by decide):GO P N a0 (⟨some d,.call {callee:=.value (.func f),args:=xs,argTypes:=ats},ty,pos,af,none⟩::rest) env L K:=GO.ef (Ef.d9 c hv) hd (by rintro _ _⟨rfl,rfl⟩;exact h)
def GPW.ca{P:Program}{N:Nat}{env:Env}{L:LH}{K:Post}{d:Nat}{f:FuncId}{xs:Array Operand}{ats:Array TypeId}{ty:TypeId}{vs:LV}{post:Value→LH→Prop}{a1:Array Oper}{done:List Nat}{plan:List Stp}{a0:List PE}{i:Nat}(c:Tri P f vs.toArray L post)(h:∀v L',post v L'→GPK P N a1 done i plan a0 [] ((d,v)::env) L' K)(hv:fT env xs.toList=some vs:=by exact rfl)(hd:d<N:=by decide):GPW P N a1 done (.ef i) plan (some d) (.call {callee:=.value (.func f),args:=xs,argTypes:=ats}) ty a0 env L K:=GPW.ef (Ef.d9 c hv) hd h
def GPW.cr{P:Program}{N:Nat}{env:Env}{L:LH}{K:Post}{d:Nat}{f:FuncId}{xs:Array Operand}{ats:Array TypeId}{ty:TypeId}{vs:LV}{a1:Array Oper}{done:List Nat}{plan:List Stp}{a0:List PE}{i:Nat}{a:Value}{M:LH}(c:Tri P f vs.toArray L (fun v L'=>v=a∧L' = M))(h:GPK P N a1 done i plan a0 [] ((d,a)::env) M K)(hv:fT env xs.toList=some vs:=by exact rfl)(hd:d<N:=by decide):GPW P N a1 done (.ef i) plan (some d) (.call {callee:=.value (.func f),args:=xs,argTypes:=ats}) ty a0 env L K:=GPW.ef (Ef.d9 c hv) hd (by rintro _ _⟨rfl,rfl⟩;exact h)
def G.dr{P:Program}{env:Env}{L:LH}{K:Post}(N id:Nat){l:List Oper}(plan:List Stp)[hK:NoP K](h:GP P N l.toArray [] plan [] env L K)(hm:P.follows .mixedOrders=true:=by exact mixed)(hp:(jD l.toArray [] plan && (plan.length == l.toArray.size) && Region.noSelect l.toArray && noDefer l.toArray)=true:=by kernel_rfl):G P N (.region id l.toArray true) env L K:=G.l7 plan hm hp h
def atSq(n:Nat):Code→Bool
 | .region i _ _=>Nat.beq i n
 | _=>false
def IC(n:Nat):Code→Bool
 | .seq x _=>atSq n x
 | _=>false
def G.sn{P:Program}{N:Nat}{env:Env}{L:LH}{K:Post}(n:Nat){x y:Code}(h:G P N x env L (K.seq fun env' L'=>G P N y env' L' K))(hb:atSq n x=false:=by rfl):G P N (.seq x y) env L K:=G.seq h
def G.sm{P:Program}{N:Nat}{env:Env}{L:LH}{K:Post}(n:Nat){x y:Code}(h:G P N x env L (K.seq fun env' L'=>G P N y env' L' K))(hb:IC n x=false:=by rfl):G P N (.seq x y) env L K:=G.seq h
abbrev rtQ(a:Value)(M:LH):Value→LH→Prop:=fun v L'=>v=a∧L' = M
structure Hid (ψ:Prop):Prop where
 out:ψ
def krStd0{φ:Prop}(h:φ:=by kernel_rfl):φ:=h
def ag{φ:Prop}(h:φ:=by decide):φ:=h
def ah{φ:Prop}(h:φ:=by repeat (first|exact Ent.refl _|exact Ent.nil _|refine Ent.o6 ?_|refine Ent.trans Ent.drop ?_)):φ:=h
def av{φ:Prop}(h:φ:=by exact ResOk.tmps rfl):φ:=h
def bH{φ:Prop}(h:φ:=by simp):φ:=h
def aJ{φ:Prop}(h:φ:=by rfl):φ:=h
def fy{φ:Prop}(h:φ:=by simp;omega):φ:=h
def gn{φ:Prop}(h:φ:=by dsimp only;omega):φ:=h
def cT{φ:Prop}(h:φ:=by repeat (first|exact Ent.refl _|apply Ent.take)):φ:=h
def ab{φ:Prop}(h:φ:=by omega):φ:=h
def aU(i:Nat):((i+1:Nat):Int)=(i:Int)+1:=by omega
def dK{α:Type}{p:α→Prop}:∀x∈([]:List α),p x:=fun _ h=>absurd h List.not_mem_nil
abbrev aq(b:Nat):Value:=.pointer (some ⟨b,0,none⟩)
abbrev ac(x:Int):Value:=.int .i64 x
abbrev ae(a:OA)(n c:Nat):Value:=.slice a n c
abbrev aN(l:LV):Value:=.agg l.toArray
def gP:type_of% @Array.length_toList:=@Array.length_toList
def ky:type_of% @Bool.and_eq_true:=@Bool.and_eq_true
def gq:type_of% @Bool.false_eq_true:=@Bool.false_eq_true
def jx:type_of% @Int.ediv_nonneg:=@Int.ediv_nonneg
def dS:type_of% @Int.emod_lt_of_pos:=@Int.emod_lt_of_pos
def eA:type_of% @Int.emod_nonneg:=@Int.emod_nonneg
def bG:type_of% @Int.le_refl:=@Int.le_refl
def cF:type_of% @Int.mul_le_mul_of_nonneg_right:=@Int.mul_le_mul_of_nonneg_right
def ed:type_of% @Int.mul_nonneg:=@Int.mul_nonneg
def aD:type_of% @Int.toNat_natCast:=@Int.toNat_natCast
def dJ:type_of% @Int.toNat_zero:=@Int.toNat_zero
def aF:type_of% @List.append_assoc:=@List.append_assoc
def aO:type_of% @List.append_nil:=@List.append_nil
def ak{α:Type _}{a:α}{b c:List α}:(a::b)++c=a::(b++c):=rfl
def dO:type_of% @List.drop_eq_getElem_cons:=@List.drop_eq_getElem_cons
def bM:type_of% @List.drop_of_length_le:=@List.drop_of_length_le
def aW:type_of% @List.eq_nil_of_length_eq_zero:=@List.eq_nil_of_length_eq_zero
def ge:type_of% @List.eq_of_mem_replicate:=@List.eq_of_mem_replicate
def dZ:type_of% @List.ext_getElem:=@List.ext_getElem
def gY:type_of% @List.ext_getElem?:=@List.ext_getElem?
def dG:type_of% @List.filter_append:=@List.filter_append
def cP:type_of% @List.filter_cons_of_neg:=@List.filter_cons_of_neg
def cO:type_of% @List.filter_cons_of_pos:=@List.filter_cons_of_pos
def gO:type_of% @List.filter_sublist:=@List.filter_sublist
def cZ:type_of% @List.flatMap_append:=@List.flatMap_append
def bB:type_of% @List.flatMap_cons:=@List.flatMap_cons
def cB:type_of% @List.foldl_append:=@List.foldl_append
def fF:type_of% @List.foldl_cons:=@List.foldl_cons
def dR:type_of% @List.getElem_append_left:=@List.getElem_append_left
def fh:type_of% @List.getElem_append_right:=@List.getElem_append_right
def fm:type_of% @List.getElem_inj:=@List.getElem_inj
def dY:type_of% @List.getElem_map:=@List.getElem_map
def eO:type_of% @List.getElem_mem:=@List.getElem_mem
def ax:type_of% @List.length_append:=@List.length_append
def bE:type_of% @List.length_cons:=@List.length_cons
def dQ:type_of% @List.length_drop:=@List.length_drop
def aA:type_of% @List.length_map:=@List.length_map
def cU:type_of% @List.length_nil:=@List.length_nil
def bJ:type_of% @List.length_set:=@List.length_set
def aG:type_of% @List.length_singleton:=@List.length_singleton
def bg:type_of% @List.length_take:=@List.length_take
def dw:type_of% @List.lookup_cons:=@List.lookup_cons
def aR:type_of% @List.map_append:=@List.map_append
def dm:type_of% @List.map_congr_left:=@List.map_congr_left
def bY:type_of% @List.map_cons:=@List.map_cons
def eM:type_of% @List.map_map:=@List.map_map
def fk:type_of% @List.map_nil:=@List.map_nil
def bQ:type_of% @List.mem_append_left:=@List.mem_append_left
def bD:type_of% @List.mem_append_right:=@List.mem_append_right
def bh:type_of% @List.mem_cons:=@List.mem_cons
def aw:type_of% @List.mem_cons_of_mem:=@List.mem_cons_of_mem
def au:type_of% @List.mem_cons_self:=@List.mem_cons_self
def alStd0List_mem_map_of_mem:type_of% @List.mem_map_of_mem:=@List.mem_map_of_mem
def gD:type_of% @List.mem_of_mem_drop:=@List.mem_of_mem_drop
def cz:type_of% @List.mem_of_mem_take:=@List.mem_of_mem_take
def bX:type_of% @List.mem_or_eq_of_mem_set:=@List.mem_or_eq_of_mem_set
def da:type_of% @List.mem_singleton_self:=@List.mem_singleton_self
def aj{α:Type _}{b:List α}:[]++b=b:=rfl
def gX:type_of% @List.nodup_append:=@List.nodup_append
def gi:type_of% @List.nodup_cons:=@List.nodup_cons
def aH:type_of% @List.not_mem_nil:=@List.not_mem_nil
def eu:type_of% @List.pairwise_cons:=@List.pairwise_cons
def bq:type_of% @List.pairwise_singleton:=@List.pairwise_singleton
def dV:type_of% @List.perm_append_singleton:=@List.perm_append_singleton
def fZ:type_of% @List.perm_middle:=@List.perm_middle
def gh:type_of% @List.range_succ:=@List.range_succ
def dq:type_of% @List.take_append_drop:=@List.take_append_drop
def cd:type_of% @List.take_length:=@List.take_length
def aB:type_of% @List.take_of_length_le:=@List.take_of_length_le
def aC:type_of% @List.take_succ_eq_append_getElem:=@List.take_succ_eq_append_getElem
def bC:type_of% @List.take_zero:=@List.take_zero
def dP:type_of% @Nat.add_assoc:=@Nat.add_assoc
def gT:type_of% @Nat.add_mul:=@Nat.add_mul
def fE:type_of% @Nat.div_add_mod:=@Nat.div_add_mod
def fN:type_of% @Nat.div_lt_iff_lt_mul:=@Nat.div_lt_iff_lt_mul
def fD:type_of% @Nat.eq_zero_or_pos:=@Nat.eq_zero_or_pos
def dX:type_of% @Nat.le_add_right:=@Nat.le_add_right
def ao:type_of% @Nat.le_of_ble_eq_true:=@Nat.le_of_ble_eq_true
def aI:type_of% @Nat.le_refl:=@Nat.le_refl
def cN:type_of% @Nat.le_trans:=@Nat.le_trans
def dl:type_of% @Nat.lt_or_ge:=@Nat.lt_or_ge
def fR:type_of% @Nat.mod_lt:=@Nat.mod_lt
def fM:type_of% @Nat.mul_comm:=@Nat.mul_comm
def dI:type_of% @Nat.mul_le_mul_right:=@Nat.mul_le_mul_right
def dU:type_of% @Nat.not_lt_zero:=@Nat.not_lt_zero
def dj:type_of% @Nat.zero_add:=@Nat.zero_add
def az:type_of% @Nat.zero_le:=@Nat.zero_le
def dW:type_of% @Option.getD_none:=@Option.getD_none
def fY:type_of% @Option.getD_some:=@Option.getD_some
def ez:type_of% @Option.map_none:=@Option.map_none
def eZ:type_of% @Option.map_some:=@Option.map_some
def an{φ:Prop}(h:φ:=by repeat (first|exact EnvSub.nil _|refine EnvSub.cons rfl ?_)):φ:=h
def xJ{φ:Prop}(h:φ:=by first|((with_reducible apply Ev.A0);exact Ev.move rfl)|((with_reducible apply Ev.u5);exact Ev.assign rfl)|((with_reducible apply Ev.z8);first|exact Ev.r5 rfl rfl|exact Ev.q9 rfl rfl)|((with_reducible apply Ev.r9);exact Ev.extract rfl rfl)|((with_reducible apply Ev.A8);exact Ev.nilCheck rfl)|((with_reducible apply Ev.u3);exact Ev.r6 rfl rfl ab ab)|((with_reducible apply Ev.A9);first|exact Ev.eql rfl rfl|exact Ev.neq rfl rfl|exact Ev.lss rfl rfl|exact Ev.leq rfl rfl|exact Ev.gtr rfl rfl|exact Ev.geq rfl rfl|exact Ev.add rfl rfl ab ab|exact Ev.sub rfl rfl ab ab|exact Ev.mul rfl rfl ab ab|exact Ev.quo rfl rfl ab ab ab|exact Ev.B4 rfl rfl ab ab ab|exact Ev.rem rfl rfl ab ab|exact Ev.B3 rfl rfl ab|exact Ev.y9 rfl rfl|exact Ev.x9 rfl rfl|exact Ev.t8 rfl rfl|exact Ev.A4 rfl rfl|exact Ev.v8 rfl rfl|exact Ev.B7 rfl rfl|exact Ev.y8 rfl rfl|exact Ev.x8 rfl rfl|exact Ev.A7 rfl rfl aJ aJ|exact Ev.p9 rfl rfl aJ aJ)|((with_reducible apply Ev.B8);first|exact Ev.B5 rfl|exact Ev.B6 rfl|exact Ev.not rfl|exact Ev.t6 rfl|exact Ev.neg rfl ab ab)|((with_reducible apply Ev.u9);first|exact Ev.build rfl rfl|exact Ev.z7 rfl rfl)|((with_reducible apply Ev.A1);exact Ev.makeFunc rfl rfl)|((with_reducible apply Ev.u7);first|exact Ev.u6 rfl rfl ab ab|exact Ev.r4 rfl rfl ab ab|exact Ev.t7 rfl rfl rfl ab ab ab|exact Ev.l8 rfl rfl rfl ab ab ab)|((with_reducible apply Ev.A2);first|exact Ev.A6 rfl|exact Ev.y7 rfl|exact Ev.min2 rfl rfl|exact Ev.max2 rfl rfl)|((with_reducible apply Ev.n9);first|exact Ev.fieldAddr rfl|exact Ev.l6 rfl (by first|omega|exact ao rfl)|exact Ev.f8 rfl)|((with_reducible apply Ev.o9);first|exact Ev.n7 rfl ab ab|exact Ev.o8 rfl ab ab|exact Ev.m9 rfl ab ab|exact Ev.conv rfl|exact Ev.n5 rfl (by first|rfl|omega|(simp;first|done|omega)))):φ:=h
def xI{φ:Prop}(h:φ:=by first|((with_reducible apply Ev.r8);first|exact Ev.d9 rfl rfl|exact Ev.d7 rfl (by first|omega|exact ao rfl) ag rfl|exact Ev.e7 rfl aJ|exact Ev.e8 rfl (by first|omega|exact ao rfl)|exact Ev.e9 rfl rfl)|((with_reducible apply Ev.l7);first|exact Ev.indexAddr rfl rfl ab (by first|omega|exact ao rfl) (by first|omega|exact ao rfl)|exact Ev.o7 rfl rfl ab ab|exact Ev.p6 rfl rfl (by first|omega|exact ao rfl) ab ab)|((with_reducible apply Ev.n9);first|exact Ev.fieldAddr rfl|exact Ev.l6 rfl (by first|omega|exact ao rfl)|exact Ev.f8 rfl)|((with_reducible apply Ev.o9);first|exact Ev.n7 rfl ab ab|exact Ev.o8 rfl ab ab|exact Ev.m9 rfl ab ab|exact Ev.conv rfl|exact Ev.n5 rfl (by first|rfl|omega|(simp;first|done|omega)))):φ:=h
def xH{φ:Prop}(h:φ:=by first|((with_reducible apply Ev.r8);first|exact Ev.d9 rfl rfl|exact Ev.d7 rfl (by first|omega|exact ao rfl) ag rfl|exact Ev.e7 rfl aJ|exact Ev.e8 rfl (by first|omega|exact ao rfl)|exact Ev.e9 rfl rfl)|((with_reducible apply Ev.l7);first|exact Ev.indexAddr rfl rfl ab (by first|omega|exact ao rfl) (by first|omega|exact ao rfl)|exact Ev.l0 rfl rfl ab ab|exact Ev.o7 rfl rfl ab ab|exact Ev.p6 rfl rfl (by first|omega|exact ao rfl) ab ab)|((with_reducible apply Ev.n9);first|exact Ev.fieldAddr rfl|exact Ev.l6 rfl (by first|omega|exact ao rfl)|exact Ev.f8 rfl)|((with_reducible apply Ev.o9);first|exact Ev.n7 rfl ab ab|exact Ev.o8 rfl ab ab|exact Ev.m9 rfl ab ab|exact Ev.conv rfl|exact Ev.n5 rfl (by first|rfl|omega|(simp;first|done|omega)))):φ:=h
def xK{φ:Prop}(h:φ:=by first|exact xH|exact xJ):φ:=h
def IE{φ ψ:Prop}(k:ψ)(h:Hid ψ→φ:=by intro k;(repeat1' (first|((with_reducible apply GO.d7);first|refine GO.ev xK ag ?_|refine GO.efB (Ef.m6 rfl) ag ?_|refine GO.efB (Ef.m8 rfl rfl) ag ?_|refine GO.efB (Ef.alloc) ag ?_|refine GO.efB (Ef.lit rfl rfl ag rfl) ag ?_)|((with_reducible apply GO.e9);first|refine GO.g9 rfl rfl ag ?_|refine GO.j0 rfl rfl ag ?_|refine GO.e7 rfl rfl ag ?_)|with_reducible apply GO.nil|((with_reducible apply GO.l0);first|refine GO.d9 (Ef.l9 rfl rfl (by first|omega|exact ao rfl)) ?_|refine GO.d9 (Ef.l8 rfl rfl rfl rfl) ?_|refine GO.d9 (Ef.g9 rfl rfl aJ aJ (by first|exact EncC.one _|simp[Value.oneCell'])) ?_|refine GO.d9 (Ef.l6 rfl rfl aJ rfl (by first|exact EncC.one _|simp[Value.oneCell'])) ?_)|((with_reducible apply GP.f8);first|refine GP.go rfl ?_|refine GP.e8 rfl rfl rfl ag ?_|refine GP.e9 rfl rfl rfl ag ?_|refine GP.e7 rfl rfl rfl ag ?_)|((with_reducible apply GPW.d9);first|refine GPW.evP xJ ag ?_|refine GPW.evL xI ag ?_|refine GPW.evP (by((with_reducible apply Ev.l7);exact Ev.l0 rfl rfl ab ab)) ag ?_)|with_reducible apply GP.nil|((with_reducible apply GPW.e7);first|refine GPW.efB (Ef.m6 rfl) ag ?_|refine GPW.efB (Ef.m8 rfl rfl) ag ?_|refine GPW.efB (Ef.alloc) ag ?_|refine GPW.efB (Ef.lit rfl rfl ag rfl) ag ?_)|((with_reducible apply GPW.d8);first|refine GPW.d7 (Ef.l9 rfl rfl (by first|omega|exact ao rfl)) ?_|refine GPW.d7 (Ef.l8 rfl rfl rfl rfl) ?_|refine GPW.d7 (Ef.g9 rfl rfl aJ aJ (by first|exact EncC.one _|simp[Value.oneCell'])) ?_|refine GPW.d7 (Ef.l6 rfl rfl aJ rfl (by first|exact EncC.one _|simp[Value.oneCell'])) ?_)|with_reducible apply GPK.nil|with_reducible apply CB.tt|with_reducible apply CB.ff|with_reducible refine CB.pos ab ?_|with_reducible refine CB.neg ab ?_|with_reducible refine CB.pos (by simp;first|done|omega) ?_|with_reducible refine CB.neg (by simp;first|done|omega) ?_|with_reducible apply GB.tt|with_reducible apply GB.ff|with_reducible refine GB.pos ab ?_|with_reducible refine GB.neg ab ?_|with_reducible refine GB.pos (by simp;first|done|omega) ?_|with_reducible refine GB.neg (by simp;first|done|omega) ?_|with_reducible refine KX.l0 ?_|with_reducible refine KX.g9 ?_|with_reducible refine KX.l6 ?_|with_reducible refine KX.l8 ?_|with_reducible refine KX.j0 ?_|with_reducible refine KX.l5 ?_|with_reducible refine KX.d8 ?_|with_reducible refine KX.f8 ag ?_|with_reducible apply G.block|with_reducible apply G.region|with_reducible apply G.skip|with_reducible apply G.exit|with_reducible apply G.ret|refine G.cond rfl ?_));exact Hid.out k):φ:=h ⟨k⟩
def run{φ ψ:Prop}(k:ψ)(h:Hid ψ→φ:=by intro k;(repeat1' (first|refine IE ?_|((with_reducible apply GPK.d7);first|refine GPK.drop rfl ?_|refine GPK.keep xH ?_)|with_reducible apply G.seq));exact Hid.out k):φ:=h ⟨k⟩
end
section
open Go.ChangeShapes Go.WideShapes Go.ChangeAt Go.RowKit
def vt(w:World):HP:=fun ι _=>Hp.sub (ij w) ι
def Stars.snoc{L:LH}{ι h:Hp}{p:HP}(s:Stars L ι h)(hp:p ι Hp.emp):Stars (L++[p]) ι h:=by
 induction L generalizing h with
 | nil=>exact⟨ι,Hp.emp,h,Hp.sub.refl _,Hp.d8 _,Hp.d7 _,Hp.sub.refl _,hp,trivial⟩
 | cons q L ih =>
  obtain⟨ι₀,h₁,h₂,a,b,c,d,e,f⟩:=s;exact⟨ι₀,h₁,h₂,a,b,c,d,e,ih f⟩
def Tri.law{P:Program}{f:FuncId}{args:Array Value}{L:LH}{v:Value}{post:LH→Prop}(h:Tri P f args L (fun u L'=>u=v∧post L'))(w:World)(hs:Stars L (ij w) Hp.emp) :
  Calls P f args w fun e w'=>e=.returned v∧Below w.heap.size w w':=by
 have s0:Sat ⟨w.tape,w.os,w.output,w.drawn⟩ (L++[vt w]) w:=⟨⟨rfl,rfl,rfl,aI _⟩,ij w,Hp.emp,fun _ _ _=>rfl,Hp.sub.refl _,Hp.d7 _,hs.snoc (Hp.sub.refl _)⟩;refine(h.calls _ _ w s0).mono ?_;rintro e w' ⟨u,L',rfl,⟨rfl,_⟩,s1⟩;refine⟨rfl,?_⟩;have s2:Sat ⟨w.tape,w.os,w.output,w.drawn⟩ (vt w::L') w':=s1.perm (dV _ _);obtain⟨ok,ι,h,a,b1,c,ι₀,h₁,h₂,d1,d2,d3,d4,d5,d6⟩:=s2;have hk:∀k o,w.heap[k]? = some o→w'.heap[k]? = some o:=fun k o hx=>b1 k o (d1 k o (d5 k o hx));refine⟨ok.os,ok.tape,ok.output,?_,fun k a0=>?_⟩
 ·rcases dl w'.heap.size w.heap.size with a2|a1
  ·have h1:=hk w'.heap.size _ (Array.getElem?_eq_getElem a2);rw[Array.getElem?_eq_none (aI _)] at h1;cases h1
  ·exact a1
 ·rw[Array.getElem?_eq_getElem a0];exact hk k _ (Array.getElem?_eq_getElem a0)
def BG{H:Type}{enc:TypeId×Value→H}{P:Program}{f:Func}{s:ChangeSpec}{apart fresh a1:Bool}{W W' : World}{args:Array Value}{v:Value}{ds gs:List (DataW H)}{a0 pa pv:List MemPlace}
  (hW:DataW.Whole enc P f.params.toList s.vars apart W args.toList ds gs a0)
  (a4:∀(b:Nat) (sp:Nat→Bool) (hd:Bool),DataW.TrodAll enc P W' b sp hd f.resultTypes.toList (v.resultList f.resultTypes.size) (s.fn H (ds++gs)).results [])
  (a2:DataW.TrodAll enc P W' 0 (fun b=>decide (b<W.heap.size)) true f.params.toList args.toList (s.fn H (ds++gs)).args pa)
  (a3:DataW.TrodVars enc P W' (fun b=>decide (b<W.heap.size)) s.vars (s.fn H (ds++gs)).vars pv)
  (a5:a0=pa++pv) (hb:Below W.heap.size W W') :
  s.post enc P f apart fresh a1 false W args v W':=by
 refine⟨ds,gs,a0,[],pa,pv,hW,a4 _ _ _,a2,a3,World.keptBut_mono (fun p hp=>⟨hp,?_⟩) (hb.frame (·∈a0)),fun h=>by cases h⟩;rw[a5,List.mem_append] at hp;exact Or.inr hp
def xk{w:World}{k:IntKind}{b off len:Nat}{zs:List Int}(hc:∀i,i<zs.length→w.cell? ⟨b,off+i,none⟩=some (.int k (zs.getD i 0)))(hl:len≤zs.length):isl (encZ k) 1 (some ⟨b,off,none⟩) (zs.take len) (ij w) Hp.emp:=by
 refine⟨fun _ _=>rfl,?_⟩;rcases fD (zs.take len).length with h0|a0
 ·exact .inl (aW h0)
 right;have hz:0<zs.length:=by simp at a0;omega
 have h0:=hc 0 hz;cases hb:w.heap[b]? with
 | none=>simp[World.cell?,hb] at h0
 | some o =>
  cases o with
  | cells cur E fz =>
   refine⟨b,off,cur,E,fz,rfl,hb,fun i v hv=>?_⟩;rw[nv] at hv
   have hi:i<(zs.take len).length:=by
    rcases dl i (zs.take len).length with h|h
    ·exact h
    ·rw[List.getElem?_eq_none (by simpa using h)] at hv;cases hv
   have h1:=hc i (by simp at hi;omega);rw[eV hb] at h1;rw[h1,←hv];simp only[bg] at hi;simp[show i<len by omega,List.getD,List.getElem?_eq_getElem (ab:i<zs.length)]
  | _=>simp[World.cell?,hb] at h0
def Stars.push{L:LH}{ι:Hp}{p:HP}(hp:p ι Hp.emp)(s:Stars L ι Hp.emp):Stars (p::L) ι Hp.emp:=⟨ι,Hp.emp,Hp.emp,Hp.sub.refl _,Hp.d8 _,Hp.d7 _,Hp.sub.refl _,hp,s⟩
abbrev pg(W:World)(b:Nat):Option Obj:=W.heap[b]?
def AM{H:Type}{enc:TypeId×Value→H}{P:Program}{W:World}{t e:TypeId}{k:IntKind}{ad:OA}{len cap:Nat}{d:DataW H}{p:List MemPlace}(ht:P.underlying t=some (.slice e))(he:P.underlying e=some (.int k))(hc:P.cellsOf e=1)
  (h:DataW.Trod enc P W 0 (fun _=>true) true t (.slice ad len cap) d p):∃xs:List Int,isl (encZ k) 1 ad xs (ij W) Hp.emp∧len=xs.length∧(len≤cap∧cap≤maxLen)∧∀x∈xs,(Lit.int k x).wf=true:=by
 obtain⟨fuel,hf⟩:=h;rcases open_ints ht he hc hf with⟨a1,hx⟩|⟨a,a6,a4,zs,a1,_,hl,hm,hz,hx,a0,a5⟩
 ·simp[Value.cells] at a1;obtain⟨rfl,rfl,rfl⟩:=a1;exact⟨[],⟨by simp,.inl rfl⟩,rfl,⟨by simp,by simp⟩,by simp⟩
 ·simp[Value.cells] at a1;obtain⟨rfl,rfl,rfl⟩:=a1;simp only[if_true] at hz;refine⟨zs.take len,?_,by simp[bg];omega,⟨hl,hm⟩,fun x hx=>a5 x (cz hx)⟩;rcases fD zs.length with h0|a3
  ·have:zs=[]:=aW h0;subst this;exact⟨by simp,.inl bH⟩
  ·have h1:=a0 0 a3;obtain⟨b,off,a2⟩:=a
   have hs:a2=none:=by
    rw[vn] at h1;unfold World.cell? at h1;cases hb:pg W b with
    | none=>simp[pg] at hb;simp[hb] at h1
    | some o =>
     simp only[pg] at hb;simp only[hb] at h1;cases o with
     | cells c E fz=>cases a2 with
      | none=>rfl
      | some x=>simp at h1
     | _=>simp at h1
   subst hs;exact xk (fun i hi=>by rw[←jG];exact a0 i hi) ab
def DP{a:Int}(h:(Lit.int .i64 a).wf=true) : -9223372036854775808≤a∧a≤9223372036854775807:=by
 simp[Lit.wf,IntKind.min,IntKind.max,IntKind.signed,IntKind.bits] at h;omega
end
section
structure SlV where
 ad:OA
 n:Nat
 cap:Nat
 deriving Inhabited
def qB(s:SlV):LV:=[.slice s.ad s.n s.cap]
def upd{α:Type}(f:Int→α)(k:Int)(v:α):Int→α:=fun j=>if j=k then v else f j
def pr{α:Type}(f:Int→α):List α:=[f 0,f 1]
section
variable {P:Program}{env:Env}{L:LH}{ty:TypeId}
structure IsMapClone (P:Program) (f:FuncId):Prop where
 run:∀args w,(callFunc f args).run P w=((Extern.MapsClone.clone args).run P w).andThen fun v w'=>.ok (.value v) w'
