/- Lemmas. -/
import Derived.Test.YtommnllbflbdmaaGreatDoorAa
set_option linter.all false
namespace Go.V
section
section ops
variable {P:Program}{N:Nat}{env:Env}{L:LH}{K:Post}{ty:TypeId}
def qL(pl:List (Nat×Nat)):List (Nat×Value)→LV→Option (LV)
 | [],z=>some z
 | (i,v)::r,z=>match pl[i]?,v.oneCell' with
  | some (off,1),true=>pw z off v fun z'=>qL pl r z'
  | _,_=>none
def tS(pl:List (Nat×Nat)):∀(vs:List (Nat×Value)) (z cs:LV),qL pl vs z=some cs→Instr.fill (fun i=>pl.toArray[i]?) z.toArray vs=some cs.toArray
 | [],z,cs,h=>by simp[qL] at h;simp[Instr.fill,h]
 | (i,v)::r,z,cs,h=>by
  simp only[qL] at h;split at h
  ·rename_i off h1 h2;obtain⟨h3,h4⟩:=sI _ _ _ _ _ h;have ih:=tS pl r _ _ h4;have a0:v.cells=#[v]:=by cases v<;>first|rfl|cases h2
   simp only[Instr.fill,List.getElem?_toArray,h1,a0];have:¬(off+1>z.length):=by omega
   simp[this] at ih ⊢;exact ih
  ·cases h
def nO{P:Program}{w:World}:∀(fs:List Field) (pl:List (Nat×Nat)),fs.map (fun fd=>(fd.offset,(P.info? fd.type).map (·.size)))=pl.map (fun p=>(p.1,some p.2)) →
  (fs.mapM fun (f:Field)=>do pure (f.offset,←sizeOf f.type)).run P w=.ok pl w
 | [],pl,h=>by
  have:pl=[]:=by simpa using h.symm
  simp[this]
 | f::fs,[],h=>by simp at h
 | f::fs,p::pl,h=>by
  simp only[List.map_cons,List.cons.injEq,Prod.mk.injEq] at h;obtain⟨⟨h1,h2⟩,h3⟩:=h;cases hi:P.info? f.type with
  | none=>rw[hi] at h2;cases h2
  | some i =>
   rw[hi] at h2;simp at h2;have ih:=nO (P:=P) (w:=w) fs pl h3;simp at ih;simp[List.mapM_cons,sizeOf,typeInfo,hi,h2];simp[sizeOf,typeInfo] at ih;simp[ih,h1]
def Ev.build{t:TypeId}{ps:Array (Nat×Operand)}{vs:List (Nat×Value)}{pl:List (Nat×Nat)}{z cs:LV}[hs:TyStruct P t pl][hz:ZeroT P t z](hv:ld env ps.toList=some vs)(hc:qL pl vs z=some cs):Ev P L env (.build t ps) ty (.agg cs.toArray) :=
 Ev.mk (fun θ R ρ w ea s _ _ _ _=>by
  obtain⟨z0,h1,h2⟩:=hz.run w;have he:=hs.eq;cases hu:P.underlying t with
  | none=>rw[hu] at he;cases he
  | some dsc =>
   rw[hu] at he;cases dsc<;>simp[sf] at he;rename_i fs;have hm:=nO (P:=P) (w:=w) fs.toList pl (by simpa using he)
   have a0:ps.map (fun p=>(p.1,ρ p.2))=vs.toArray:=by
    apply Array.ext';simpa using ea.pairs ps.toList vs hv
   have a1 : (fs.mapM fun (f:Field)=>do pure (f.offset,←sizeOf f.type)).run P w=.ok pl.toArray w:=by
    have e:fs=fs.toList.toArray:=by simp
    rw[e,List.mapM_toArray];simp only[Sem.run_map,hm,Result.andThen_ok]
   have hf:=tS pl vs z cs hc;simp only[execOp,a0,Instr.build,Sem.run_bind,h1,Result.andThen_ok,run_underlying hu,a1,h2];simp only[hf];simp)
def appK:LV→LV→(LV→Option (LV))→Option (LV)
 | [],r,k=>k r
 | c::l,r,k=>appK l r fun x=>k (c::x)
def litK(sz:Nat):List (Nat×Value)→Nat→(LV→Option (LV))→Option (LV)
 | [],_,k=>k []
 | (j,.agg c)::r,i,k=>match Nat.beq j i,Nat.beq c.size sz with
  | true,true=>litK sz r (i+1) fun x=>appK c.toList x k
  | _,_=>none
 | (j,v)::r,i,k=>match Nat.beq j i,Nat.beq 1 sz with
  | true,true=>litK sz r (i+1) fun x=>k (v::x)
  | _,_=>none
def BR:∀(a r:LV) (k:LV→Option (LV)),appK a r k=k (a++r)
 | [],_,_=>rfl
 | c::l,r,k=>by simp[appK,BR l r]
def BE(sz:Nat):∀(vs:List (Nat×Value)) (i:Nat) (k:LV→Option (LV)) (r:LV),litK sz vs i k=some r →
  (∀p∈vs,p.2.cells.size=sz)∧vs.map (·.1)=List.range' i vs.length∧k (vs.flatMap fun p=>p.2.cells.toList)=some r
 | [],_,k,r,h=>by simpa [litK] using h
 | (j,v)::vs,i,k,r,h=>by
  have key:∀(h' : (match Nat.beq j i,Nat.beq v.cells.size sz with|true,true=>litK sz vs (i+1) (fun x=>k (v.cells.toList++x))|_,_=>none)=some r),
    (∀p∈(j,v)::vs,p.2.cells.size=sz)∧((j,v)::vs).map (·.1)=List.range' i ((j,v)::vs).length∧k (((j,v)::vs).flatMap fun p=>p.2.cells.toList)=some r:=by
   intro h';split at h'
   ·rename_i h1 h2;obtain⟨a1,a2,a3⟩:=BE sz vs (i+1) _ r h';have e1:j=i:=Nat.eq_of_beq_eq_true h1;have e2:v.cells.size=sz:=Nat.eq_of_beq_eq_true h2;refine⟨?_,?_,?_⟩
    ·intro p hp;rcases List.mem_cons.1 hp with rfl|hp
     ·exact e2
     ·exact a1 p hp
    ·simp[e1,List.range'_succ,a2]
    ·simpa using a3
   ·cases h'
  apply key;cases v<;>first|(simpa [litK,BR,Value.cells] using h)
def tQ:∀(l:LV) (off k:Nat) (acc:LV),off+k+l.length≤acc.length →
  ((l.zipIdx k).foldl (fun (cs:Array Value) (p:Value×Nat)=>cs.setIfInBounds (off+p.2) p.1) acc.toArray)=(acc.take (off+k)++l++acc.drop (off+k+l.length)).toArray
 | [],off,k,acc,h=>by simp
 | v::l,off,k,acc,h=>by
  simp only[List.zipIdx_cons,List.foldl_cons,List.setIfInBounds_toArray];rw[tQ l off (k+1) _ (by simp at h ⊢;omega)];have a0:off+k<acc.length:=by simp at h;omega
  congr 1
  have e1:(acc.set (off+k) v).take (off+(k+1))=acc.take (off+k)++[v]:=by
   rw[show off+(k+1)=off+k+1 by omega,List.take_succ_eq_append_getElem (by simpa using a0),List.take_set_of_le (Nat.le_refl _)];simp
  have e2:(acc.set (off+k) v).drop (off+(k+1)+l.length)=acc.drop (off+k+(l.length+1)):=by
   rw[List.drop_set_of_lt (by omega)];congr 1;omega
  rw[e1,e2];simp
def yj(sz:Nat):∀(vs:List (Nat×Value)) (i:Nat) (acc:LV),(∀p∈vs,p.2.cells.size=sz)→vs.map (·.1)=List.range' i vs.length→acc.length=(i+vs.length)*sz →
  Instr.fill (fun i=>some (i*sz,sz)) acc.toArray vs=some (acc.take (i*sz)++vs.flatMap fun p=>p.2.cells.toList).toArray
 | [],i,acc,_,_,h=>by
  have:acc.take (i*sz)=acc:=List.take_of_length_le (by simp at h;omega);simp[Instr.fill,this]
 | (j,v)::vs,i,acc,h1,h2,h3=>by
  simp only[List.map_cons,List.length_cons,List.range'_succ,List.cons.injEq] at h2;obtain⟨rfl,h2⟩:=h2;have hv:=h1 (j,v) List.mem_cons_self;simp only at hv
  have a2:j*sz+sz≤acc.length:=by
   rw[h3];have h4:(j+1)*sz≤(j+((j,v)::vs).length)*sz:=Nat.mul_le_mul_right _ (by simp);have h5:=Nat.add_mul j 1 sz;omega
  simp only[Instr.fill,hv,ne_eq,not_true_eq_false,List.size_toArray];have a1:¬(j*sz+sz>acc.length):=by omega
  simp only[decide_false,Bool.false_or,gt_iff_lt,decide_eq_true_eq];rw[if_neg (by omega)]
  have a0:(v.cells.zipIdx.foldl (fun cs x=>match x with|(c,k)=>cs.setIfInBounds (j*sz+k) c) acc.toArray)=(acc.take (j*sz)++v.cells.toList++acc.drop (j*sz+sz)).toArray:=by
   have:=tQ v.cells.toList (j*sz) 0 acc (by simp[hv];omega)
   rw[←Array.foldl_toList];simp only[Array.toList_zipIdx];simp only[Nat.add_zero,Array.length_toList,hv] at this;exact this
  rw[a0]
  rw[yj sz vs (j+1) _ (fun p hp=>h1 p (List.mem_cons_of_mem _ hp)) h2 (by
   simp only[List.length_append,List.length_take,Array.length_toList,hv,List.length_drop];simp only[List.length_cons] at h3;have e:(j+1+vs.length)*sz=(j+(vs.length+1))*sz:=by congr 1;omega
   rw[e,←h3];omega)]
  have e1:(acc.take (j*sz)++v.cells.toList++acc.drop (j*sz+sz)).take ((j+1)*sz)=acc.take (j*sz)++v.cells.toList:=by
   rw[List.take_append_of_le_length (by simp[hv,Nat.add_mul];omega)];apply List.take_of_length_le;simp[hv,Nat.add_mul];omega
  rw[e1];simp
def Ef.lit{t:TypeId}{len:Nat}{ps:Array (Nat×Operand)}{vs:List (Nat×Value)}{E sz bb:Nat}{z cs:LV}[ht:TySl P t E sz bb z](hv:ld env ps.toList=some vs)(hn:vs.length=len)(hl:len*sz≤16777216)(hc:litK sz vs 0 some=some cs)
  : Ef P L env (.buildSlice t len ps) ty (fun v L'=>∃b,v=.slice (some ⟨b,0,none⟩) len len∧L' = obj b E cs::L):=by
 obtain⟨a1,a2,a3⟩:=BE sz vs 0 some cs hc;refine Ef.buildSlice hv hl ?_;simp only[sq,Option.map_eq_some_iff];have e:(Array.range (len*sz)).map (z.toArray[· % z.length]!)=((List.range (len*sz)).map (z.toArray[· % z.length]!)).toArray:=by apply Array.ext';simp
 rw[e,yj sz vs 0 _ a1 (by rw[a2]) (by simp[hn])];simp only[Option.some.injEq] at a3;exact⟨_,rfl,by simp[a3]⟩
def advA(ad:OA)(cap sz k:Nat):OA:=if cap=k then ad else ad.map (·.add (k*sz))
def Ev.u7{t:TypeId}{x hi:Operand}{ad:OA}{n c E sz bb:Nat}{z:LV}{k:IntKind}{j:Int}[ht:TySl P t E sz bb z](hx:evE env x=some (.slice ad n c))(hh:evE env hi=some (.int k j))(h0:0≤j)(h1:j≤c):Ev P L env (.slice t x none (some hi) none) ty (.slice ad j.toNat c) :=
 Ev.mk (fun _ _ _ w ea _ _ _ _ _=>by
  obtain⟨ii,z0,i1,i2,i3,i4,i5⟩:=ht.parts;simp[execOp,aP ea hx,aP ea hh,Instr.sliceAt,Instr.slice,run_underlying ht.under,Instr.sliceBounds,Instr.sliceBound,asIntOf,h0,h1,sizeOf,typeInfo,i1];intro;cases ad<;>simp[Addr.add])
def Ev.q8{t:TypeId}{x lo:Operand}{ad:OA}{n c E sz bb:Nat}{z:LV}{k:IntKind}{j:Int}[ht:TySl P t E sz bb z](hx:evE env x=some (.slice ad n c))(hl:evE env lo=some (.int k j))(h0:0≤j)(h1:j≤n):Ev P L env (.slice t x (some lo) none none) ty (.slice (advA ad c sz j.toNat) (n - j.toNat) (c - j.toNat)) :=
 Ev.mk (fun _ _ _ w ea _ _ _ _ _=>by
  obtain⟨ii,z0,i1,i2,i3,i4,i5⟩:=ht.parts;simp[execOp,aP ea hx,aP ea hl,Instr.sliceAt,Instr.slice,run_underlying ht.under,Instr.sliceBounds,Instr.sliceBound,asIntOf,h0,h1,sizeOf,typeInfo,i1,i4,advA])
def Ev.t6{t:TypeId}{x lo hi:Operand}{ad:OA}{n c E sz bb:Nat}{z:LV}{k k' : IntKind}{i j:Int}[ht:TySl P t E sz bb z](hx:evE env x=some (.slice ad n c))(hl:evE env lo=some (.int k i))(hh:evE env hi=some (.int k' j))(h0:0≤i)(h1:i≤j)(h2:j≤c):Ev P L env (.slice t x (some lo) (some hi) none) ty (.slice (advA ad c sz i.toNat) (j.toNat - i.toNat) (c - i.toNat)) :=
 Ev.mk (fun _ _ _ w ea _ _ _ _ _=>by
  obtain⟨ii,z0,i1,i2,i3,i4,i5⟩:=ht.parts;have hj:0≤j:=by omega
  have a1:i≤(j.toNat:Int):=by omega
  have a0 : i≤max j 0:=by omega
  simp[execOp,aP ea hx,aP ea hl,aP ea hh,Instr.sliceAt,Instr.slice,run_underlying ht.under,Instr.sliceBounds,Instr.sliceBound,asIntOf,h0,hj,h2,a0,sizeOf,typeInfo,i1,i4,advA])
def RdSl.drop{α:Type}{w:World}{enc:α→LV}{sz:Nat}{ad:OA}{xs:List α}(h:RdSl w enc sz ad xs){cap:Nat}(hc:xs.length≤cap)(k:Nat):RdSl w enc sz (advA ad cap sz k) (xs.drop k):=by
 obtain⟨h1,h2⟩:=h;refine⟨fun x hx=>h1 x (List.mem_of_mem_drop hx),?_⟩;by_cases hk:xs.length≤k
 ·exact .inl (List.drop_eq_nil_of_le hk)
 ·rcases h2 with h2|⟨a,rfl,h3⟩
  ·subst h2;simp at hk
  ·refine .inr ⟨a.add (k*sz),?_,?_⟩
   ·have:¬cap=k:=by omega
    simp[advA,this]
   ·intro i v hv
    have e:(a.add (k*sz)).add i=a.add (k*sz+i):=by
     unfold Addr.add;(repeat' split)<;>first|rfl|omega|(simp;omega)|(simp_all;done)
    rw[e];apply h3;have a0:xs.flatMap enc=(xs.take k).flatMap enc++(xs.drop k).flatMap enc:=by rw[←List.flatMap_append,List.take_append_drop]
    have a1:((xs.take k).flatMap enc).length=k*sz:=by
     rw[fI (fun x hx=>h1 x (List.mem_of_mem_take hx)),List.length_take,Nat.min_eq_left (by omega)]
    rw[a0,List.getElem?_append_right (by omega),a1];rw[show k*sz+i - k*sz=i by omega];exact hv
def RdSl.take{α:Type}{w:World}{enc:α→LV}{sz:Nat}{ad:OA}{xs:List α}(h:RdSl w enc sz ad xs)(k:Nat):RdSl w enc sz ad (xs.take k):=by
 obtain⟨h1,h2⟩:=h;refine⟨fun x hx=>h1 x (List.mem_of_mem_take hx),?_⟩;rcases h2 with h2|⟨a,rfl,h3⟩
 ·exact .inl (by simp[h2])
 ·refine .inr ⟨a,rfl,fun i v hv=>h3 i v ?_⟩;have a0:xs.flatMap enc=(xs.take k).flatMap enc++(xs.drop k).flatMap enc:=by rw[←List.flatMap_append,List.take_append_drop]
  rw[a0,List.getElem?_append_left (List.getElem?_eq_some_iff.1 hv).1];exact hv
theorem Rds.drop{α:Type}{enc:α→LV}{sz:Nat}{ad:OA}{xs:List α}(h:Rds L ad α enc sz xs){cap:Nat}(hc:xs.length≤cap)(k:Nat):Rds L (advA ad cap sz k) α enc sz (xs.drop k):=⟨fun θ R w s=>(h.rd θ R w s).drop hc k⟩
theorem Rds.take{α:Type}{enc:α→LV}{sz:Nat}{ad:OA}{xs:List α}(h:Rds L ad α enc sz xs)(k:Nat):Rds L ad α enc sz (xs.take k):=⟨fun θ R w s=>(h.rd θ R w s).take k⟩
def omap{α:Type}(enc:α→Value)(b:Nat)(m:List (Int×α)):HP:=fun _ h =>
 ∃es a0,h b=some (.map es a0)∧es.toList.map (fun e=>(e.key,e.val))=m.map (fun p=>(Value.int .i64 p.1,enc p.2))∧(m.map (·.1)).Nodup∧es.size≤a0∧(∀e∈es,e.born<a0)∧(es.toList.map (·.born)).Nodup
class PickMap (L:LH) (b:Nat) (α:outParam Type) (enc:outParam (α→Value)) (m:outParam (List (Int×α))) (R:outParam (LH)):Prop where
 perm:L.Perm (omap enc b m::R)
def ains{α:Type}(m:List (Int×α))(k:Int)(a:α):List (Int×α):=if m.any (fun p=>p.1 == k) then m.map (fun p=>if p.1=k then(k,a) else p) else m++[(k,a)]
def aera{α:Type}(m:List (Int×α))(k:Int):List (Int×α):=m.filter (fun p=>!(p.1 == k))
def Sat.omap_parts{α:Type}{θ:Th}{enc:α→Value}{b:Nat}{m:List (Int×α)}{L:LH}{w:World}(s:Sat θ (omap enc b m::L) w) :
  ∃es a0,es.toList.map (fun e=>(e.key,e.val))=m.map (fun p=>(Value.int .i64 p.1,enc p.2))∧(m.map (·.1)).Nodup∧es.size≤a0∧(∀e∈es,e.born<a0)∧(es.toList.map (·.born)).Nodup∧Sat θ (own b (.map es a0)::L) w:=by
 obtain⟨ok,ι,h,a,b1,c,ι₀,h₁,h₂,d1,d2,d3,d4,⟨es,a0,e1,e2,e3,e4,e5,e6⟩,d6⟩:=s;exact⟨es,a0,e2,e3,e4,e5,e6,ok,ι,h,a,b1,c,ι₀,h₁,h₂,d1,d2,d3,d4,e1,d6⟩
def Sat.e7{α:Type}{θ:Th}{enc:α→Value}{b:Nat}{m:List (Int×α)}{L:LH}{w:World}{es:Array MapEntry}{a0:Nat}(s:Sat θ (own b (.map es a0)::L) w)
  (h1:es.toList.map (fun e=>(e.key,e.val))=m.map (fun p=>(Value.int .i64 p.1,enc p.2))) (h2:(m.map (·.1)).Nodup) (h3:es.size≤a0) (h4:∀e∈es,e.born<a0) (h5:(es.toList.map (·.born)).Nodup):Sat θ (omap enc b m::L) w:=by
 obtain⟨ok,ι,h,a,b1,c,ι₀,h₁,h₂,d1,d2,d3,d4,d5,d6⟩:=s;exact⟨ok,ι,h,a,b1,c,ι₀,h₁,h₂,d1,d2,d3,d4,⟨es,a0,d5,h1,h2,h3,h4,h5⟩,d6⟩
def Ef.makeMap{t:TypeId}{α:Type}(enc:α→Value):Ef P L env (.makeMap t none) ty (fun v L'=>∃b,v=.map (some b)∧L' = omap enc b []::L) :=
 Ef.val (fun θ R a w ea s a0 pos af g=>⟨_,w.alloc (.map #[] 0),_,by simp[execOp,Instr.makeMap],⟨_,rfl,rfl⟩,Sat.e7 s.alloc (by simp) (by simp) (by simp) (by simp) (by simp)⟩)
def nT{α:Type}{enc:α→Value}{kk:IntKind}(k:Int):∀(es:List MapEntry) (m:List (Int×α)) (i:Nat),es.map (fun e=>(e.key,e.val))=m.map (fun p=>(Value.int .i64 p.1,enc p.2)) →
  Instr.findNow (.int kk) (.int .i64 k) es i=some ((m.findIdx? (fun p=>p.1 == k)).map fun j=>(i+j,(m[j]?.map (fun p=>enc p.2)).getD undef))
 | [],[],i,_=>by simp[Instr.findNow]
 | [],_::_,_,h=>by simp at h
 | _::_,[],_,h=>by simp at h
 | e::es,p::m,i,h=>by
  simp only[List.map_cons,List.cons.injEq,Prod.mk.injEq] at h;obtain⟨⟨h1,h2⟩,h3⟩:=h;have ih:=nT (kk:=kk) k es m (i+1) h3;simp only[Instr.findNow,h1,Instr.sameNow,if_true];by_cases hk:k=p.1
  ·subst hk;simp[List.findIdx?_cons,h2]
  ·have hb:(k == p.1)=false:=by simpa using hk
   have a0 : (p.1 == k)=false:=by simpa using fun h=>hk h.symm
   simp only[hb,ih,List.findIdx?_cons,a0];cases List.findIdx? (fun p=>p.1 == k) m<;>simp;omega
def lw{t:TypeId}{k:IntKind}{kk:IntKind}{n:Int}{w:World}{b:Bool}(h:P.underlying t=some (.int kk)):(Instr.checkKey b 10000 t (.int k n)).run P w=.ok () w:=by
 have:∀m,(Instr.checkKey b (m+1) t (.int k n)).run P w=.ok () w:=fun m=>by simp[Instr.checkKey,run_underlying h]
 exact this 9999
class TyKeyI (P:Program) (T:Nat) (E:outParam Nat) (z:outParam Value):Prop where
 ok:∃K k,P.underlying T=some (.map K E)∧P.underlying K=some (.int k)∧(P.info? E).map (·.zero)=some (some z)
def iQ{w:World}{b:Nat}{es a0 : Array MapEntry}{c c' : Nat}(hb:w.heap[b]? = some (.map es c)):(setObj b (.map a0 c')).run P w=.ok () { w with heap:=w.heap.setIfInBounds b (.map a0 c') }:=by simp[setObj,Sem.run,hb]
def Sat.setMap{θ:Th}{b:Nat}{o o' : Obj}{L:LH}{w:World}(s:Sat θ (own b o::L) w):Sat θ (own b o'::L) { w with heap:=w.heap.setIfInBounds b o' }:=by
 have hb:=s.own_heap;have a0:=(Array.getElem?_eq_some_iff.1 hb).1;refine s.update ⟨s.1.tape,s.1.os,s.1.output,s.1.drawn⟩ ?_ (fun k x hk hx=>?_)
 ·simp[a0]
 ·simp only;rw[Array.getElem?_setIfInBounds_ne (Ne.symm hk)];exact hx
def Gn{α:Type}{m:List (Int×α)}{k:Int}{a:α}(h:(m.map (·.1)).Nodup):((ains m k a).map (·.1)).Nodup:=by
 unfold ains;split
 ·rw[List.map_map]
  have:(fun p:Int×α=>(if p.1=k then(k,a) else p).1)=(·.1):=by
   funext p;split
   ·rename_i h;exact h.symm
   ·rfl
  show((m.map ((·.1) ∘ fun p=>if p.1=k then(k,a) else p))).Nodup;rw[show((·.1) ∘ fun p:Int×α=>if p.1=k then(k,a) else p)=(fun p:Int×α=>(if p.1=k then(k,a) else p).1) from rfl,this];exact h
 ·rename_i hn;rw[List.map_append,List.nodup_append];refine⟨h,by simp,?_⟩;intro x hx y hy;simp at hy;subst hy;rintro rfl;apply hn;obtain⟨p,hp,rfl⟩:=List.mem_map.1 hx;exact List.any_eq_true.2 ⟨p,hp,by simp⟩
def uM{α:Type}{m:List (Int×α)}{k:Int}{j:Nat}(h:m.findIdx? (fun p=>p.1 == k)=some j):m.any (fun p=>p.1 == k)=true:=by
 obtain⟨a0,h1,_⟩:=List.findIdx?_eq_some_iff_getElem.1 h;exact List.any_eq_true.2 ⟨m[j],List.getElem_mem a0,h1⟩
def mg{α:Type}{k:Int}{a:α}:∀{m:List (Int×α)} {j:Nat},(m.map (·.1)).Nodup→m.findIdx? (fun p=>p.1 == k)=some j→m.map (fun p=>if p.1=k then(k,a) else p)=m.set j (k,a)
 | [],j,_,h=>by simp at h
 | p::m,j,hn,h=>by
  simp only[List.map_cons,List.nodup_cons] at hn;rw[List.findIdx?_cons] at h;by_cases hk:p.1=k
  ·simp[hk] at h;subst h;simp only[List.map_cons,hk,if_true,List.set_cons_zero,List.cons.injEq,true_and];rw[List.map_congr_left (g:=id),List.map_id];intro q hq;have:q.1≠k:=fun e=>hn.1 (by rw[hk,←e];exact List.mem_map_of_mem hq);simp[this]
  ·have hb:(p.1 == k)=false:=by simpa using hk
   simp only[hb] at h;obtain⟨i,hi,rfl⟩:=Option.map_eq_some_iff.1 h;simp only[List.map_cons,hk,if_false,List.set_cons_succ,List.cons.injEq,true_and];exact mg hn.2 hi
def Ef.mapUpdate{t:TypeId}{x y z' : Operand}{b E:Nat}{z v:Value}{α:Type}{enc:α→Value}{m:List (Int×α)}{Rest:LH}{k:Int}(e:α)[ht:TyKeyI P t E z][hp:PickMap L b α enc m Rest](hx:evE env x=some (.map (some b)))(hy:evE env y=some (.int .i64 k))(hz:evE env z' = some v)(hv:v=enc e)
  : Ef P L env (.mapUpdate t x y z') ty (fun _ L'=>L' = omap enc b (ains m k e)::Rest) :=
 Ef.skip (fun θ R a w ea s b2 pos af g=>by
  subst hv;obtain⟨K,kk,h1,h2,h3⟩:=ht.ok;obtain⟨es,a0,e1,e2,e3,e4,e5,s2⟩:=(s.perm (hp.perm.append_right R)).omap_parts;have hb:=s2.own_heap;have hf:=nT (kk:=kk) k es.toList m 0 e1;have a2:(getObj b).run P w=.ok (.map es a0) w:=by simp[getObj,Sem.run,hb]
  have a7:=Gn (k:=k) (a:=e) e2;cases hj:m.findIdx? (fun p=>p.1 == k) with
  | none =>
   rw[hj] at hf;simp only[Option.map_none] at hf
   have b1:m.any (fun p=>p.1 == k)=false:=by
    rw[List.findIdx?_eq_none_iff] at hj;simpa using hj
   refine⟨_,_,?_,rfl,Sat.e7 (s2.setMap (o':=.map (es.push { key:=.int .i64 k,val:=enc e,born:=a0 }) (a0+1))) ?_ a7 ?_ ?_ ?_⟩
   ·simp[execOp,aP ea hx,aP ea hy,aP ea hz,Instr.mapUpdate,run_underlying h1,a2,lw h2,Instr.findKey,run_underlying h2,hf,iQ hb]
   ·simp[e1,ains,b1]
   ·simp;omega
   ·intro x hx;rcases Array.mem_push.1 hx with hx|rfl
    ·have:=e4 x hx;omega
    ·simp
   ·simp only[Array.toList_push,List.map_append,List.map_cons,List.map_nil];rw[List.nodup_append];refine⟨e5,by simp,?_⟩;intro x hx y hy;simp at hy;subst hy;obtain⟨q,hq,rfl⟩:=List.mem_map.1 hx;have:=e4 q (by simpa using hq)
    omega
  | some j =>
   rw[hj] at hf;simp only[Option.map_some,Nat.zero_add] at hf;have a4:=uM hj;have a5:=mg (a:=e) e2 hj;obtain⟨a1,a8,_⟩:=List.findIdx?_eq_some_iff_getElem.1 hj
   have b3:es.size=m.length:=by
    have:=congrArg List.length e1
    simpa using this
   have a6:((es[j]?).map (·.key)).getD (Value.int .i64 k)=.int .i64 k:=by
    have h5:=congrArg (fun l=>l[j]?) e1;simp only[List.getElem?_map,List.getElem?_eq_getElem a1,Array.getElem?_toList] at h5;rw[Array.getElem?_eq_getElem (by omega)] at h5 ⊢;simp at h5 ⊢;rw[h5.1];simp at a8;rw[a8]
   have b0:(Instr.keyThatStays (((es[j]?).map (·.key)).getD (Value.int .i64 k)) (.int .i64 k)).run P w=.ok (.int .i64 k) w:=by
    rw[a6]
    have:Instr.sameBits 10000 (.int .i64 k) (.int .i64 k)=true:=by
     show Instr.sameBits (9999+1) (.int .i64 k) (.int .i64 k)=true;simp[Instr.sameBits]
    simp[Instr.keyThatStays,this]
   refine⟨_,_,?_,rfl,Sat.e7 (s2.setMap (o':=.map (es.modify j fun x=>{ x with key:=.int .i64 k,val:=enc e }) a0)) ?_ a7 ?_ ?_ ?_⟩
   ·simp[execOp,aP ea hx,aP ea hy,aP ea hz,Instr.mapUpdate,run_underlying h1,a2,lw h2,Instr.findKey,run_underlying h2,hf,b0,iQ hb]
   ·simp only[ains,a4,if_true,a5];rw[Array.toList_modify];apply List.ext_getElem?;intro i;have h5:=congrArg (fun l=>l[i]?) e1;simp only[List.getElem?_map] at h5;simp only[List.getElem?_map,List.getElem?_modify,List.getElem?_set];by_cases a3:j=i
    ·subst a3;have a9:j<es.toList.length:=by simp;omega
     simp[a1,List.getElem?_eq_getElem a9]
    ·simp only[a3,if_false];cases hq:es.toList[i]? with
     | none=>rw[hq] at h5;simpa using h5
     | some q=>rw[hq] at h5;simpa using h5
   ·simpa using e3
   ·intro x hx;obtain⟨i,hi,rfl⟩:=Array.mem_iff_getElem.1 hx;rw[Array.getElem_modify];have h6:es[i]'(by simpa using hi)∈es:=Array.getElem_mem _;split
    ·exact e4 (es[i]'(by simpa using hi)) h6
    ·exact e4 _ h6
   ·have:(es.modify j fun x=>{ x with key:=.int .i64 k,val:=enc e }).toList.map (·.born)=es.toList.map (·.born):=by
     rw[Array.toList_modify];apply List.ext_getElem?;intro i;simp only[List.getElem?_map,List.getElem?_modify];by_cases a3:j=i
     ·subst a3;cases es.toList[j]?<;>simp
     ·simp[a3]
    rw[this];exact e5)
def yO{α:Type}{k:Int}:∀{m:List (Int×α)} {j:Nat},(m.map (·.1)).Nodup→m.findIdx? (fun p=>p.1 == k)=some j→aera m k=m.eraseIdx j
 | [],j,_,h=>by simp at h
 | p::m,j,hn,h=>by
  simp only[List.map_cons,List.nodup_cons] at hn;rw[List.findIdx?_cons] at h;by_cases hk:p.1=k
  ·simp[hk] at h;subst h;simp only[aera,List.filter_cons,hk,beq_self_eq_true,Bool.not_true,Bool.false_eq_true,if_false,List.eraseIdx_zero,List.tail_cons];apply List.filter_eq_self.2;intro q hq;have:q.1≠k:=fun e=>hn.1 (by rw[hk,←e];exact List.mem_map_of_mem hq);simp[this]
  ·have hb:(p.1 == k)=false:=by simpa using hk
   simp only[hb] at h;obtain⟨i,hi,rfl⟩:=Option.map_eq_some_iff.1 h;have ih:=yO hn.2 hi;simp only[aera,List.filter_cons,hb,Bool.not_false,if_true,List.eraseIdx_cons_succ,List.cons.injEq,true_and];exact ih
def kd{β γ:Type}(f:β→γ):∀(l:List β) (j:Nat),(l.eraseIdx j).map f=(l.map f).eraseIdx j
 | [],j=>by simp
 | x::l,0=>by simp
 | x::l,j+1=>by simp[kd f l j]
def Ef.delete{t kt:TypeId}{x y:Operand}{b E:Nat}{z:Value}{α:Type}{enc:α→Value}{m:List (Int×α)}{Rest:LH}{k:Int}[ht:TyKeyI P t E z][hp:PickMap L b α enc m Rest](hx:evE env x=some (.map (some b)))(hy:evE env y=some (.int .i64 k))
  : Ef P L env (.call { callee:=.builtin .delete,args:=#[x,y],argTypes:=#[t,kt] }) ty (fun _ L'=>L' = omap enc b (aera m k)::Rest) :=
 Ef.val (fun θ R a w ea s a8 pos af g=>by
  obtain⟨K,kk,h1,h2,h3⟩:=ht.ok;obtain⟨es,a0,e1,e2,e3,e4,e5,s2⟩:=(s.perm (hp.perm.append_right R)).omap_parts;have hb:=s2.own_heap;have hf:=nT (kk:=kk) k es.toList m 0 e1;have a1:(getObj b).run P w=.ok (.map es a0) w:=by simp[getObj,Sem.run,hb]
  have a5:((aera m k).map (·.1)).Nodup:=e2.sublist ((List.filter_sublist).map _)
  have a9:es.size=m.length:=by
   have:=congrArg List.length e1
   simpa using this
  cases hj:m.findIdx? (fun p=>p.1 == k) with
  | none =>
   rw[hj] at hf;simp only[Option.map_none] at hf;have a3:=List.findIdx?_eq_none_iff.1 hj;have he:aera m k=m:=List.filter_eq_self.2 fun p hp=>by simp[a3 p hp]
   refine⟨.tuple #[],_,_,?_,rfl,Sat.e7 (s2.setMap (o':=.map es a0)) (by rw[he];exact e1) a5 e3 e4 e5⟩;simp[execOp,resolve,invoke,builtin,aP ea hx,aP ea hy,Builtin.delete_,run_underlying h1,a1,lw h2,Instr.findKey,run_underlying h2,hf,iQ hb]
  | some j =>
   rw[hj] at hf;simp only[Option.map_some,Nat.zero_add] at hf;have a4:=yO e2 hj;obtain⟨a6,a7,_⟩:=List.findIdx?_eq_some_iff_getElem.1 hj
   have a2:(es.eraseIdxIfInBounds j).toList=es.toList.eraseIdx j:=by
    simp[Array.eraseIdxIfInBounds,show j<es.size by omega]
   refine⟨.tuple #[],_,_,?_,rfl,Sat.e7 (s2.setMap (o':=.map (es.eraseIdxIfInBounds j) a0)) ?_ a5 ?_ ?_ ?_⟩
   ·simp[execOp,resolve,invoke,builtin,aP ea hx,aP ea hy,Builtin.delete_,run_underlying h1,a1,lw h2,Instr.findKey,run_underlying h2,hf,iQ hb]
   ·rw[a2,a4,kd,kd,e1]
   ·have h7:(es.eraseIdxIfInBounds j).size=(es.toList.eraseIdx j).length:=by rw[←a2,Array.length_toList]
    have h8:(es.toList.eraseIdx j).length≤es.toList.length:=List.length_eraseIdx_le es.toList j;have h9:es.toList.length=es.size:=Array.length_toList;omega
   ·intro x hx;have:x∈es.toList.eraseIdx j:=by rw[←a2];exact Array.mem_toList_iff.2 hx
    exact e4 x (by simpa using List.mem_of_mem_eraseIdx this)
   ·rw[a2,kd];exact e5.sublist (List.eraseIdx_sublist _ _))
end ops
end
section
class PickHP (L:LH) (A:HP) (R:outParam (LH)):Prop where
 perm:L.Perm (A::R)
instance (A:HP)(L:LH):PickHP (A::L) A L:=⟨List.Perm.refl _⟩
instance (A B:HP)(L R:LH)[h:PickHP L A R]:PickHP (B::L) A (B::R):=⟨(h.perm.cons B).trans (List.Perm.swap _ _ _)⟩
def Ent.take{L R pre R' : LH}{A:HP}[h:PickHP L A R](hr:Ent R (pre++R')):Ent L ((A::pre)++R'):=(Ent.perm h.perm).trans hr.cons
def Ent.n7{L R L' : LH}{A:HP}[h:PickHP L A R](hr:Ent R L'):Ent L (A::L'):=(Ent.perm h.perm).trans hr.cons
def Ef.f8{P:Program}{env:Env}{L:LH}{f:FuncId}{xs:Array Operand}{ats:Array TypeId}{ty:TypeId}{vs:LV}{post:Value→LH→Prop}
  (c:Tri P f vs.toArray L post) (hv:gg env xs.toList=some vs):Ef P L env (.call { callee:=.value (.func f),args:=xs,argTypes:=ats }) ty post:=by
 have h:=Ef.call (R':=[]) (L:=L) (ats:=ats) (ty:=ty) c hv (by rw[List.append_nil];exact Ent.refl _);intro θ R a w o next Q ha s h1 h2 hn
 refine h θ R a w o next Q ha s h1 h2 ?_
 rintro v L' w' ⟨L₁,hp,rfl⟩ s';rw[List.append_nil] at s';exact hn v L₁ w' hp s'
def Ent.mk{L L' : LH}(h:∀θ R w,Sat θ (L++R) w→Sat θ (L'++R) w):Ent L L':=h
def Ent.sat{L L' : LH}(h:Ent L L'){θ:Th}{R:LH}{w:World}(s:Sat θ (L++R) w):Sat θ (L'++R) w:=h θ R w s
def Ent.o6{A B:HP}{L:LH}(h:∀θ R w,Sat θ (A::R) w→Sat θ (B::R) w):Ent (A::L) (B::L):=fun θ R w s=>h θ (L++R) w s
section at_
variable {P:Program}{N:Nat}{env:Env}{L:LH}{K:Post}{ty:TypeId}{v:Value}
def Ev.z8{x:Operand}(h:Ev P L env (.move x) ty v):Ev P L env (.move x) ty v:=h
def Ev.u6{x:Operand}(h:Ev P L env (.assign x) ty v):Ev P L env (.assign x) ty v:=h
def Ev.z7{a b c:Operand}(h:Ev P L env (.pick a b c) ty v):Ev P L env (.pick a b c) ty v:=h
def Ev.r7{x:Operand}{i:Nat}(h:Ev P L env (.extract x i) ty v):Ev P L env (.extract x i) ty v:=h
def Ev.A7{o:BinOp}{t yt:TypeId}{x y:Operand}(h:Ev P L env (.binOp o t x y yt) ty v):Ev P L env (.binOp o t x y yt) ty v:=h
def Ev.B6{o:UnOp}{t:TypeId}{x:Operand}(h:Ev P L env (.unOp o t x) ty v):Ev P L env (.unOp o t x) ty v:=h
def Ev.o0{s t:TypeId}{x:Operand}(h:Ev P L env (.convert s t x) ty v):Ev P L env (.convert s t x) ty v:=h
def Ev.A6{x:Operand}(h:Ev P L env (.nilCheck x) ty v):Ev P L env (.nilCheck x) ty v:=h
def Ev.m9{s f:Nat}{x:Operand}(h:Ev P L env (.fieldAddr s x f) ty v):Ev P L env (.fieldAddr s x f) ty v:=h
def Ev.r6{t:TypeId}{x:Operand}(h:Ev P L env (.load t x) ty v):Ev P L env (.load t x) ty v:=h
def Ev.l0{t:TypeId}{x i:Operand}(h:Ev P L env (.indexAddr t x i) ty v):Ev P L env (.indexAddr t x i) ty v:=h
def Ev.v2{t:TypeId}{ps:Array (Nat×Operand)}(h:Ev P L env (.build t ps) ty v):Ev P L env (.build t ps) ty v:=h
def Ev.u9{t:TypeId}{x:Operand}{a b c:Option Operand}(h:Ev P L env (.slice t x a b c) ty v):Ev P L env (.slice t x a b c) ty v:=h
def Ev.A1{c:Call}(h:Ev P L env (.call c) ty v):Ev P L env (.call c) ty v:=h
def Ev.A0{fn:Fn}{fs cs:Array Operand}(h:Ev P L env (.makeFunc fn fs cs) ty v):Ev P L env (.makeFunc fn fs cs) ty v:=h
variable {ops:Array Oper}{rest:List Oper}{op:Op}{pos:String}{af:Array Edge}
def GO.d7{d:Nat}(h:GO P N ops (⟨some d,op,ty,pos,af,none⟩::rest) env L K):GO P N ops (⟨some d,op,ty,pos,af,none⟩::rest) env L K:=h
def GO.g8(h:GO P N ops (⟨none,op,ty,pos,af,none⟩::rest) env L K):GO P N ops (⟨none,op,ty,pos,af,none⟩::rest) env L K:=h
def GO.e9{d j:Nat}{b:Bool}(h:GO P N ops (⟨some d,op,ty,pos,af,some (j,b)⟩::rest) env L K):GO P N ops (⟨some d,op,ty,pos,af,some (j,b)⟩::rest) env L K:=h
variable {done:List Nat}{plan:List Stp}{pend:List PE}{i:Nat}
def GP.f7{s:Stp}(h:GP P N ops done (s::plan) pend env L K):GP P N ops done (s::plan) pend env L K:=h
def GPW.d9{d:Nat}(h:GPW P N ops done (.ev i) plan (some d) op ty pend env L K):GPW P N ops done (.ev i) plan (some d) op ty pend env L K:=h
def GPW.e7{d:Nat}(h:GPW P N ops done (.ef i) plan (some d) op ty pend env L K):GPW P N ops done (.ef i) plan (some d) op ty pend env L K:=h
def GPW.d8(h:GPW P N ops done (.ef i) plan none op ty pend env L K):GPW P N ops done (.ef i) plan none op ty pend env L K:=h
def GPK.d7{pe:PE}{ts acc:List PE}(h:GPK P N ops done i plan (pe::ts) acc env L K):GPK P N ops done i plan (pe::ts) acc env L K:=h
def G.d9(id:Nat){l:Array Oper}{dr:Bool}{x y:Code}(h:G P N (.seq (.seq (.region id l dr) x) y) env L K):G P N (.seq (.seq (.region id l dr) x) y) env L K:=h
def G.atS(id:Nat){l:Array Oper}{dr:Bool}{y:Code}(h:G P N (.seq (.region id l dr) y) env L K):G P N (.seq (.region id l dr) y) env L K:=h
def G.d7{id:Nat}{l:List Oper}(h:G P N (.region id l.toArray true) env L K):G P N (.region id l.toArray true) env L K:=h
end at_
end
section
section
variable {P:Program}{N:Nat}{env:Env}{L:LH}{K:Post}
def G.g7{c:Code}{φ:Prop}(h:∀θ R w,Sat θ (L++R) w→φ)(k:φ→G P N c env L K):G P N c env L K:=fun r θ Y a w hr i=>let ⟨_,_,_,s⟩:=i;k (h θ _ w s) r θ Y a w hr i
def GO.d9{a0:Array Oper}{l:List Oper}{φ:Prop}(h:∀θ R w,Sat θ (L++R) w→φ)(k:φ→GO P N a0 l env L K):GO P N a0 l env L K:=fun r θ Y a w hr i=>let ⟨_,_,_,s⟩:=i;k (h θ _ w s) r θ Y a w hr i
def G.ent{c:Code}{L' : LH}(hl:Ent L L')(h:G P N c env L' K):G P N c env L K:=h.conseq (EnvSub.refl _) hl
def GO.ent{a0:Array Oper}{l:List Oper}{L' : LH}(hl:Ent L L')(h:GO P N a0 l env L' K):GO P N a0 l env L K:=h.conseq (EnvSub.refl _) hl
def GP.ent{a1:Array Oper}{done:List Nat}{plan:List Stp}{a0:List PE}{L' : LH}(hl:Ent L L')(h:GP P N a1 done plan a0 env L' K):GP P N a1 done plan a0 env L K:=fun hK hp hs a3 θ Y a w S i a4 a2=>h hK hp hs a3 θ Y a w S (i.less (EnvSub.refl _) hl) a4 a2
def GPW.ent{a2:Array Oper}{done:List Nat}{plan:List Stp}{a0:List PE}{L' : LH}{s:Stp}{a1:Option Tmp}{op:Op}{ty:TypeId}(hl:Ent L L')(h:GPW P N a2 done s plan a1 op ty a0 env L' K):GPW P N a2 done s plan a1 op ty a0 env L K:=fun pos af g h1 h2=>GP.ent hl (h pos af g h1 h2)
def G.d8{α:Type}{x y:Code}(Inv:α→Prop)(e:α→Env)(l:α→LH)(h:G P N x env L (K.seq fun a0 L'=>∃g,Inv g∧EnvSub a0 (e g)∧Ent L' (l g)))(h' : ∀g,Inv g→G P N y (e g) (l g) K):G P N (.seq x y) env L K :=
 G.mid _ h (by rintro a0 L' ⟨g,h1,h2,h3⟩;exact(h' g h1).conseq h2 h3)
def G.less{c:Code}{a0 : Env}(he:EnvSub env a0)(h:G P N c a0 L K):G P N c env L K:=h.conseq he (Ent.refl _)
def G.e7{α:Type}{c:Code}{f:α→LH}(h:∀x,G P N c env (f x++L) K):G P N c env (hex (fun x=>cR (f x))::L) K:=G.open_ (φ:=fun _=>True) (L':=fun x=>f x++L) (fun θ R w s =>
 let ⟨x,s1⟩:=Sat.ofHex (show Sat θ (hex (fun x=>cR (f x))::(L++R)) w from s);⟨x,trivial,by rw[List.append_assoc];exact s1.ofStars⟩) (fun x _=>h x)
def GO.g9{α:Type}{a0:Array Oper}{l:List Oper}{f:α→LH}(h:∀x,GO P N a0 l env (f x++L) K):GO P N a0 l env (hex (fun x=>cR (f x))::L) K:=GO.open_ (φ:=fun _=>True) (L':=fun x=>f x++L) (fun θ R w s =>
 let ⟨x,s1⟩:=Sat.ofHex (show Sat θ (hex (fun x=>cR (f x))::(L++R)) w from s);⟨x,trivial,by rw[List.append_assoc];exact s1.ofStars⟩) (fun x _=>h x)
def Ent.j0{α:Type}{f:α→LH}{R:LH}(x:α)(h:Ent L (f x++R)):Ent L (hex (fun x=>cR (f x))::R):=fun θ R' w s=>by
 have s1:=h θ R' w s;rw[List.append_assoc] at s1;exact Sat.e8 (f:=fun x=>cR (f x)) x (Sat.d7 s1)
def Ent.pure{φ:Prop}{L' : LH}(hφ:φ)(h:Ent L L'):Ent L (dz φ::L'):=fun θ R w s=>Sat.addPure (h θ R w s) hφ
def G.e8{c:Code}{φ:Prop}(h:φ→G P N c env L K):G P N c env (dz φ::L) K:=G.open_ (φ:=fun _:Unit=>φ) (L':=fun _=>L) (fun θ R w s=>⟨(),Sat.ofPure (show Sat θ (dz φ::(L++R)) w from s),s.tail⟩) (fun _=>h)
def GO.l5{a0:Array Oper}{l:List Oper}{φ:Prop}(h:φ→GO P N a0 l env L K):GO P N a0 l env (dz φ::L) K:=GO.open_ (φ:=fun _:Unit=>φ) (L':=fun _=>L) (fun θ R w s=>⟨(),Sat.ofPure (show Sat θ (dz φ::(L++R)) w from s),s.tail⟩) (fun _=>h)
def Ent.dup{A:HP}(hA:Pers A):Ent (A::L) (A::A::L):=fun _ _ _ s=>Sat.dup hA s
def Ent.freezeSl{α:Type}{enc:α→LV}{sz E:Nat}{ad:OA}{cap:Nat}{xs:List α}:Ent (osl enc sz E ad cap xs::L) (isl enc sz ad xs::L):=fun _ _ _ s=>Sat.freezeSl s
def Ent.f7{α:Type}{enc:α→LV}{sz E b:Nat}{cs:LV}{xs:List α}{n:Nat}(hc:cs=xs.flatMap enc)(hn:xs.length=n)(hs:∀x∈xs,(enc x).length=sz)(hm:n≤9223372036854775807):Ent (obj b E cs::L) (osl enc sz E (some ⟨b,0,none⟩) n xs::L):=fun θ R w s=>by
 subst hc hn;exact Sat.osl_mk (show Sat θ (own b (.cells (xs.flatMap enc).toArray E (0,0))::(L++R)) w from s) hs (Nat.le_refl _) (by simp only[maxLen];omega) (by simp[fI hs]) (List.take_of_length_le (by rw[fI hs];exact Nat.le_refl _))
def Ent.d8{α:Type}(enc:α→LV)(sz E:Nat):Ent L (osl enc sz E none 0 []::L):=fun _ _ _ s=>Sat.e9 enc sz E s
def Ent.e8{α:Type}(enc:α→LV)(sz:Nat)(ad:OA):Ent L (isl enc sz ad []::L):=fun θ R w s=>by
 obtain⟨ok,ι,h',a,b1,c,d⟩:=s;exact⟨ok,ι,h',a,b1,c,Hp.emp,Hp.emp,h',Hp.d7 _,Hp.d8 _,Hp.d7 _,Hp.sub.refl _,⟨by simp,.inl rfl⟩,d⟩
def oh{α:Type}{enc:α→LV}{sz:Nat}{xs:List α}[h:Rds L none α enc sz xs]:∀θ R w,Sat θ (L++R) w→xs=[]:=fun θ R w s=>by
 rcases (h.rd θ R w s).2 with h|⟨a,ha,_⟩
 ·exact h
 ·cases ha
def iq{α:Type}{enc:α→LV}{sz E:Nat}{ad:OA}{cap:Nat}{xs:List α}{R' : LH}[h:PickOsl L ad α enc sz E cap xs R']:∀θ R w,Sat θ (L++R) w→xs.length≤cap∧cap≤9223372036854775807:=fun θ R w s=>by
 have:=(s.perm (h.perm.append_right R)).osl_parts
 simp only[maxLen] at this;exact⟨this.2.1,by omega⟩
def allP{α:Type}(f:α→HP)(l:List α):HP:=fun ι _=>∀x∈l,f x ι Hp.emp
def nG{α:Type}(f:α→HP)(l:List α):Pers (allP f l):=fun _ _ h=>h
def Ent.d9{α:Type}(f:α→HP):Ent L (allP f []::L):=fun θ R w s=>by
 obtain⟨ok,ι,h',a,b1,c,d⟩:=s;exact⟨ok,ι,h',a,b1,c,Hp.emp,Hp.emp,h',Hp.d7 _,Hp.d8 _,Hp.d7 _,Hp.sub.refl _,(by intro x hx;cases hx),d⟩
structure PersM (A:HP):Prop where
 pers:Pers A
 mono:∀ι ι' h,Hp.sub ι ι'→A ι h→A ι' h
def bN{α:Type}(enc:α→LV)(sz:Nat)(ad:OA)(xs:List α):PersM (isl enc sz ad xs):=⟨lH enc sz ad xs,fun ι ι' h hs hi=>by
 obtain⟨h1,h2⟩:=hi;refine⟨h1,?_⟩;rcases h2 with h2|⟨g,off,a0,E,fz,f1,f2,f3⟩
 ·exact .inl h2
 ·exact .inr ⟨g,off,a0,E,fz,f1,hs _ _ f2,f3⟩⟩
def Ent.l5{α:Type}{f:α→HP}{l l' : List α}(h:∀x∈l',x∈l):Ent (allP f l::L) (allP f l'::L):=fun θ R w s=>by
 obtain⟨ok,ι,h',a,b1,c,ι₀,h₁,h₂,d1,d2,d3,d4,d5,d6⟩:=s;exact⟨ok,ι,h',a,b1,c,ι₀,h₁,h₂,d1,d2,d3,d4,fun x hx=>d5 x (h x hx),d6⟩
def Ent.g9{α:Type}{f:α→HP}(hf:∀x,PersM (f x)){x:α}{l:List α}:Ent (f x::allP f l::L) (allP f (x::l)::L):=fun θ R w s=>by
 obtain⟨ok,ι,h',a,b1,c,ι₁,h₁,h₂,d1,d2,d3,d4,d5,ι₂,h₃,h₄,e1,e2,e3,e4,e5,e6⟩:=s;refine⟨ok,ι,h',a,b1,c,ι,Hp.emp,h₄,Hp.sub.refl _,Hp.d8 _,Hp.d7 _,e4.trans d4,?_,e6⟩;intro y hy;rcases List.mem_cons.1 hy with rfl|hy
 ·exact(hf _).mono _ _ _ d1 ((hf _).pers _ _ d5)
 ·exact(hf _).mono _ _ _ e1 (e5 y hy)
def Ent.g7{α:Type}{f:α→HP}(hf:∀x,PersM (f x)){l l' : List α}:Ent (allP f l::allP f l'::L) (allP f (l++l')::L):=fun θ R w s=>by
 obtain⟨ok,ι,h',a,b1,c,ι₁,h₁,h₂,d1,d2,d3,d4,d5,ι₂,h₃,h₄,e1,e2,e3,e4,e5,e6⟩:=s;refine⟨ok,ι,h',a,b1,c,ι,Hp.emp,h₄,Hp.sub.refl _,Hp.d8 _,Hp.d7 _,e4.trans d4,?_,e6⟩;intro y hy;rcases List.mem_append.1 hy with hy|hy
 ·exact(hf _).mono _ _ _ d1 (d5 y hy)
 ·exact(hf _).mono _ _ _ e1 (e5 y hy)
def Ent.f8{α:Type}{f:α→HP}(hf:∀x,PersM (f x)){x:α}:Ent (f x::L) (allP f [x]::L):=fun θ R w s=>by
 obtain⟨ok,ι,h',a,b1,c,ι₁,h₁,h₂,d1,d2,d3,d4,d5,d6⟩:=s;refine⟨ok,ι,h',a,b1,c,ι₁,h₁,h₂,d1,d2,d3,d4,?_,d6⟩;intro y hy;simp at hy;subst hy;exact(hf _).pers _ _ d5
def Ent.e7{α:Type}{f:α→HP}{l:List α}{x:α}(h:x∈l):Ent (allP f l::L) (f x::allP f l::L):=fun θ R w s=>by
 obtain⟨ok,ι,h',a,b1,c,ι₁,h₁,h₂,d1,d2,d3,d4,d5,d6⟩:=s;exact⟨ok,ι,h',a,b1,c,ι₁,Hp.emp,h',d1,Hp.d8 _,Hp.d7 _,Hp.sub.refl _,d5 x h,ι₁,h₁,h₂,d1,d2,d3,d4,d5,d6⟩
def Ent.frz{α:Type}{enc:α→LV}{sz E:Nat}(ad:OA){cap:Nat}{xs:List α}{R:LH}[h:PickOsl L ad α enc sz E cap xs R]:Ent L (isl enc sz ad xs::R):=(Ent.perm h.perm).trans Ent.freezeSl
def Ent.at{A:HP}{R L' : LH}[h:PickHP L A R](hr:Ent (A::R) L'):Ent L L':=(Ent.perm h.perm).trans hr
def Ent.swap{A B:HP}:Ent (A::B::L) (B::A::L):=Ent.perm (List.Perm.swap _ _ _)
def Ent.d7{A:HP}{L' : LH}(h:Ent L L'):Ent (A::L) (A::L'):=h.cons
end
def ResOk.cell{P:Program}{N:Nat}{env:Env}{L Rest:LH}{rs:List ResultVar}{vs cs:LV}{x b T n:Nat}{t:TypeId}[ht:TyAgg P t n][hp:PickObj L b T cs Rest](h:env.lookup x=some (.pointer (some ⟨b,0,none⟩)))(hn:cs.length=n)(hr:ResOk P N env L rs vs):ResOk P N env L (.cell x t::rs) (.agg cs.toArray::vs):=by
 intro θ R a w ea s g h1 h2;have h3:=ea.at_ x _ h;have hb:=s.obj_heap hp.perm;have hl:=run_loadCells_list (P:=P) w ⟨b,0,none⟩ cs (fun j v hv=>by rw[gJ,fk hb];simpa using hv);rw[hn] at hl;simp[List.mapM_cons,hr θ R a w ea s g h1 h2,h2,h3,asAddr,loadVar,ht.run,TyAgg.sizeOf_run,hl]
def ResOk.d7{P:Program}{N:Nat}{env:Env}{L Rest:LH}{rs:List ResultVar}{vs:LV}{v:Value}{x b T:Nat}{t:TypeId}[ht:TyOne P t][hp:PickObj L b T [v] Rest](h:env.lookup x=some (.pointer (some ⟨b,0,none⟩)))(hr:ResOk P N env L rs vs):ResOk P N env L (.cell x t::rs) (v::vs):=by
 intro θ R a w ea s g h1 h2;have h3:=ea.at_ x _ h;have hb:=s.obj_heap hp.perm;simp[List.mapM_cons,hr θ R a w ea s g h1 h2,h2,h3,asAddr,loadVar,ht.run,fk hb]
def bigO{α:Type}(f:α→HP)(l:List α):HP:=cR (l.map f)
def Ent.l0{α:Type}(f:α→HP){L:LH}:Ent L (bigO f []::L):=fun _ _ _ s=>Sat.d7 (A:=[]) s
def Ent.l8{α:Type}{f:α→HP}{x:α}{l:List α}{L:LH}:Ent (f x::bigO f l::L) (bigO f (l++[x])::L):=fun θ R w s=>by
 have s1:Sat θ (bigO f l::f x::(L++R)) w:=s.perm (List.Perm.swap _ _ _);have s2:=Sat.ofStars s1;refine Sat.d7 (A:=(l++[x]).map f) ?_;simpa using s2
def Ent.m6{α:Type}{f:α→HP}{x:α}{l:List α}{L:LH}:Ent (f x::bigO f l::L) (bigO f (x::l)::L):=fun θ R w s=>by
 have s1:Sat θ (bigO f l::f x::(L++R)) w:=s.perm (List.Perm.swap _ _ _);have s2:=Sat.ofStars s1;refine Sat.d7 (A:=(x::l).map f) ?_;exact s2.perm List.perm_middle
def Ent.bigO_uncons{α:Type}{f:α→HP}{x:α}{l:List α}{L:LH}:Ent (bigO f (x::l)::L) (f x::bigO f l::L):=fun θ R w s=>by
 have s2:Sat θ (f x::(l.map f++(L++R))) w:=Sat.ofStars (A:=(x::l).map f) s;have s3:Sat θ (l.map f++(f x::(L++R))) w:=s2.perm List.perm_middle.symm;exact(Sat.d7 (A:=l.map f) s3).perm (List.Perm.swap _ _ _)
def Ent.l7{α:Type}{f g:α→HP}(hg:∀x,PersM (g x))(h:∀x L,Ent (f x::L) (g x::L)):∀(l:List α) (L:LH),Ent (bigO f l::L) (allP g l::L)
 | [],_=>(Ent.drop).trans (Ent.d9 g)
 | x::l,L=>(Ent.bigO_uncons).trans ((h x _).trans ((Ent.d7 (Ent.l7 hg h l L)).trans (Ent.g9 hg)))
def encZ(k:IntKind)(x:Int):LV:=[.int k x]
def ni(k:IntKind)(x:Int):∀u∈encZ k x,u.oneCell' = true:=by simp[encZ,Value.oneCell']
def nS{α:Type}(f:α→Value)(xs:List α):xs.flatMap (fun x=>[f x])=xs.map f:=by
 induction xs with
 | nil=>rfl
 | cons x xs ih=>simp[ih]
