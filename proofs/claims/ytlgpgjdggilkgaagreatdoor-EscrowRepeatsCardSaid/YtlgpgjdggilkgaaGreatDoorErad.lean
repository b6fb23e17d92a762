/- Lemmas. -/
import Derived.Test.YtlgpgjdggilkgaaGreatDoorErac
set_option linter.all false
namespace Go.V
section
section ops
variable {P:Program}{N:Nat}{env:Env}{L:LH}{Ν:E1}{ty:TypeId}
def pj(pl:List (Nat×Nat)):List (Nat×Value)->LV->Option (LV)
 | [],z=>some z
 | (i,v)::Θ,z=>match pl[i]?,v.oneCell' with
  | some (off,1),true=>nT z off v λz'=>pj pl Θ z'
  | _,_=>none
def rK(pl:List (Nat×Nat)):∀(vs:List (Nat×Value)) (z cs:LV),pj pl vs z=some cs->Instr.fill (λi=>pl.toArray[i]?) z.toArray vs=some cs.toArray
 | [],z,cs,h=>by simp[pj] at h;simp[Instr.fill,h]
 | (i,v)::Θ,z,cs,h=>by
  simp only[pj] at h;split at h
  .rename_i off J U;obtain⟨h3,h4⟩:=qN _ _ _ _ _ h;have ih:=rK pl Θ _ _ h4;have r:v.cells=#[v]:=by cases v<;>first|rfl|cases U
   simp only[Instr.fill,List.getElem?_toArray,J,r];have:¬(off+1>z.length):=by omega
   simp[this] at ih ⊢;exact ih
  .cases h
def mG{P:Program}{w:World}:∀(fs:List Field) (pl:List (Nat×Nat)),fs.map (λfd=>(fd.offset,(P.info? fd.type).map (·.size)))=pl.map (λp=>(p.1,some p.2)) ->
  (fs.mapM λ (f:Field)=>do pure (f.offset,<-sizeOf f.type)).run P w=.ok pl w
 | [],pl,h=>by
  have:pl=[]:=by simpa using h.symm
  simp[this]
 | f::fs,[],h=>by simp at h
 | f::fs,p::pl,h=>by
  simp only[List.map_cons,List.cons.injEq,Prod.mk.injEq] at h;obtain⟨⟨J,U⟩,h3⟩:=h;cases hi:P.info? f.type with
  | none=>rw[hi] at U;cases U
  | some i =>
   rw[hi] at U;simp at U;have ih:=mG (P:=P) (w:=w) fs pl h3;simp at ih;simp[List.mapM_cons,sizeOf,typeInfo,hi,U];simp[sizeOf,typeInfo] at ih;simp[ih,J]
def O.build{t:TypeId}{ps:Array (Nat×Operand)}{vs:List (Nat×Value)}{pl:List (Nat×Nat)}{z cs:LV}[hs:Kf P t pl][hz:I5 P t z](hv:jF env ps.toList=some vs)(hc:pj pl vs z=some cs):O P L env (.build t ps) ty (.agg cs.toArray) :=
 O.mk (λθ Α ρ w ea s _ _ _ _=>by
  obtain⟨z0,J,U⟩:=hz.run w;have he:=hs.eq;cases hu:P.underlying t with
  | none=>rw[hu] at he;cases he
  | some QN =>
   rw[hu] at he;cases QN<;>simp[qo] at he;rename_i fs;have hm:=mG (P:=P) (w:=w) fs.toList pl (by simpa using he)
   have r:ps.map (λp=>(p.1,ρ p.2))=vs.toArray:=by
    apply Array.ext';simpa using ea.pairs ps.toList vs hv
   have I : (fs.mapM λ (f:Field)=>do pure (f.offset,<-sizeOf f.type)).run P w=.ok pl.toArray w:=by
    have e:fs=fs.toList.toArray:=by simp
    rw[e,List.mapM_toArray];simp only[Sem.run_map,hm,Result.andThen_ok]
   have hf:=rK pl vs z cs hc;simp only[execOp,r,Instr.build,Sem.run_bind,J,Result.andThen_ok,run_underlying hu,I,U];simp only[hf];simp)
def Qj:LV->LV->(LV->Option (LV))->Option (LV)
 | [],Θ,k=>k Θ
 | c::l,Θ,k=>Qj l Θ λx=>k (c::x)
def OD(sz:Nat):List (Nat×Value)->Nat->(LV->Option (LV))->Option (LV)
 | [],_,k=>k []
 | (j,.agg c)::Θ,i,k=>match Nat.beq j i,Nat.beq c.size sz with
  | true,true=>OD sz Θ (i+1) λx=>Qj c.toList x k
  | _,_=>none
 | (j,v)::Θ,i,k=>match Nat.beq j i,Nat.beq 1 sz with
  | true,true=>OD sz Θ (i+1) λx=>k (v::x)
  | _,_=>none
def zX:∀(a Θ:LV) (k:LV->Option (LV)),Qj a Θ k=k (a++Θ)
 | [],_,_=>rfl
 | c::l,Θ,k=>by simp[Qj,zX l Θ]
def zG(sz:Nat):∀(vs:List (Nat×Value)) (i:Nat) (k:LV->Option (LV)) (Θ:LV),OD sz vs i k=some Θ ->
  (∀p∈vs,p.2.cells.size=sz)/\vs.map (·.1)=List.range' i vs.length/\k (vs.flatMap λp=>p.2.cells.toList)=some Θ
 | [],_,k,Θ,h=>by simpa [OD] using h
 | (j,v)::vs,i,k,Θ,h=>by
  have key:∀(h' : (match Nat.beq j i,Nat.beq v.cells.size sz with|true,true=>OD sz vs (i+1) (λx=>k (v.cells.toList++x))|_,_=>none)=some Θ),
    (∀p∈(j,v)::vs,p.2.cells.size=sz)/\((j,v)::vs).map (·.1)=List.range' i ((j,v)::vs).length/\k (((j,v)::vs).flatMap λp=>p.2.cells.toList)=some Θ:=by
   intro h';split at h'
   .rename_i J U;obtain⟨I,a2,a3⟩:=zG sz vs (i+1) _ Θ h';have e1:j=i:=Nat.eq_of_beq_eq_true J;have e2:v.cells.size=sz:=Nat.eq_of_beq_eq_true U;refine⟨?_,?_,?_⟩
    .intro p hp;rcases Jr hp with rfl|hp
     .exact e2
     .exact I p hp
    .simp[e1,List.range'_succ,a2]
    .simpa using a3
   .cases h'
  apply key;cases v<;>first|(simpa [OD,zX,Value.cells] using h)
def rG:∀(l:LV) (off k:Nat) (acc:LV),off+k+l.length<=acc.length ->
  ((l.zipIdx k).foldl (λ (cs:Array Value) (p:Value×Nat)=>cs.setIfInBounds (off+p.2) p.1) acc.toArray)=(acc.take (off+k)++l++acc.drop (off+k+l.length)).toArray
 | [],off,k,acc,h=>by simp
 | v::l,off,k,acc,h=>by
  simp only[List.zipIdx_cons,List.foldl_cons,List.setIfInBounds_toArray];rw[rG l off (k+1) _ (by simp at h ⊢;omega)];have r:off+k<acc.length:=by simp at h;omega
  congr 1
  have e1:(acc.set (off+k) v).take (off+(k+1))=acc.take (off+k)++[v]:=by
   rw[show off+(k+1)=off+k+1 by omega,List.take_succ_eq_append_getElem (by simpa using r),List.take_set_of_le (Nat.le_refl _)];simp
  have e2:(acc.set (off+k) v).drop (off+(k+1)+l.length)=acc.drop (off+k+(l.length+1)):=by
   rw[List.drop_set_of_lt (by omega)];congr 1;omega
  rw[e1,e2];simp
def wA(sz:Nat):∀(vs:List (Nat×Value)) (i:Nat) (acc:LV),(∀p∈vs,p.2.cells.size=sz)->vs.map (·.1)=List.range' i vs.length->acc.length=(i+vs.length)*sz ->
  Instr.fill (λi=>some (i*sz,sz)) acc.toArray vs=some (acc.take (i*sz)++vs.flatMap λp=>p.2.cells.toList).toArray
 | [],i,acc,_,_,h=>by
  have:acc.take (i*sz)=acc:=List.take_of_length_le (by simp at h;omega);simp[Instr.fill,this]
 | (j,v)::vs,i,acc,J,U,h3=>by
  simp only[List.map_cons,List.length_cons,List.range'_succ,List.cons.injEq] at U;obtain⟨rfl,U⟩:=U;have hv:=J (j,v) List.mem_cons_self;simp only at hv
  have I:j*sz+sz<=acc.length:=by
   rw[h3];have h4:(j+1)*sz<=(j+((j,v)::vs).length)*sz:=Nat.mul_le_mul_right _ (by simp);have h5:=Nat.add_mul j 1 sz;omega
  simp only[Instr.fill,hv,ne_eq,not_true_eq_false,List.size_toArray];have a2:¬(j*sz+sz>acc.length):=by omega
  simp only[decide_false,Bool.false_or,gt_iff_lt,decide_eq_true_eq];rw[Ω (by omega)]
  have r:(v.cells.zipIdx.foldl (λcs x=>match x with|(c,k)=>cs.setIfInBounds (j*sz+k) c) acc.toArray)=(acc.take (j*sz)++v.cells.toList++acc.drop (j*sz+sz)).toArray:=by
   have:=rG v.cells.toList (j*sz) 0 acc (by simp[hv];omega)
   rw[<-Array.foldl_toList];simp only[Array.toList_zipIdx];simp only[Nat.add_zero,Array.length_toList,hv] at this;exact this
  rw[r]
  rw[wA sz vs (j+1) _ (λp hp=>J p (List.mem_cons_of_mem _ hp)) U (by
   simp only[List.length_append,List.length_take,Array.length_toList,hv,List.length_drop];simp only[List.length_cons] at h3;have e:(j+1+vs.length)*sz=(j+(vs.length+1))*sz:=by congr 1;omega
   rw[e,<-h3];omega)]
  have e1:(acc.take (j*sz)++v.cells.toList++acc.drop (j*sz+sz)).take ((j+1)*sz)=acc.take (j*sz)++v.cells.toList:=by
   rw[List.take_append_of_le_length (by simp[hv,Nat.add_mul];omega)];apply List.take_of_length_le;simp[hv,Nat.add_mul];omega
  rw[e1];simp
def Ef.lit{t:TypeId}{len:Nat}{ps:Array (Nat×Operand)}{vs:List (Nat×Value)}{Τ sz bb:Nat}{z cs:LV}[ht:IJ P t Τ sz bb z](hv:jF env ps.toList=some vs)(hn:vs.length=len)(hl:len*sz<=16777216)(hc:OD sz vs 0 some=some cs)
  : Ef P L env (.buildSlice t len ps) ty (λv Y=>∃b,v=.slice (some ⟨b,0,none⟩) len len/\Y = obj b Τ cs::L):=by
 obtain⟨I,a2,a3⟩:=zG sz vs 0 some cs hc;refine Ef.buildSlice hv hl ?_;simp only[qv,Option.map_eq_some_iff];have e:(Array.range (len*sz)).map (z.toArray[· % z.length]!)=((List.range (len*sz)).map (z.toArray[· % z.length]!)).toArray:=by apply Array.ext';simp
 rw[e,wA sz vs 0 _ I (by rw[a2]) (by simp[hn])];simp only[Option.some.injEq] at a3;exact⟨_,rfl,by simp[a3]⟩
def Jk(M:OA)(cap sz k:Nat):OA:=if cap=k then M else M.map (·.add (k*sz))
def O.q7{t:TypeId}{x hi:Operand}{M:OA}{n c Τ sz bb:Nat}{z:LV}{k:IntKind}{j:Int}[ht:IJ P t Τ sz bb z](K:χ env x=some (.slice M n c))(hh:χ env hi=some (.int k j))(h0:0<=j)(J:j<=c):O P L env (.slice t x none (some hi) none) ty (.slice M j.toNat c) :=
 O.mk (λ_ _ _ w ea _ _ _ _ _=>by
  obtain⟨ii,z0,i1,i2,i3,i4,i5⟩:=ht.Ζ;simp[execOp,aH ea K,aH ea hh,Instr.sliceAt,Instr.slice,run_underlying ht.under,Instr.sliceBounds,Instr.sliceBound,asIntOf,h0,J,sizeOf,typeInfo,i1];intro;cases M<;>simp[Addr.add])
def O.n5{t:TypeId}{x lo:Operand}{M:OA}{n c Τ sz bb:Nat}{z:LV}{k:IntKind}{j:Int}[ht:IJ P t Τ sz bb z](K:χ env x=some (.slice M n c))(hl:χ env lo=some (.int k j))(h0:0<=j)(J:j<=n):O P L env (.slice t x (some lo) none none) ty (.slice (Jk M c sz j.toNat) (n - j.toNat) (c - j.toNat)) :=
 O.mk (λ_ _ _ w ea _ _ _ _ _=>by
  obtain⟨ii,z0,i1,i2,i3,i4,i5⟩:=ht.Ζ;simp[execOp,aH ea K,aH ea hl,Instr.sliceAt,Instr.slice,run_underlying ht.under,Instr.sliceBounds,Instr.sliceBound,asIntOf,h0,J,sizeOf,typeInfo,i1,i4,Jk])
def O.o9{t:TypeId}{x lo hi:Operand}{M:OA}{n c Τ sz bb:Nat}{z:LV}{k k' : IntKind}{i j:Int}[ht:IJ P t Τ sz bb z](K:χ env x=some (.slice M n c))(hl:χ env lo=some (.int k i))(hh:χ env hi=some (.int k' j))(h0:0<=i)(J:i<=j)(U:j<=c):O P L env (.slice t x (some lo) (some hi) none) ty (.slice (Jk M c sz i.toNat) (j.toNat - i.toNat) (c - i.toNat)) :=
 O.mk (λ_ _ _ w ea _ _ _ _ _=>by
  obtain⟨ii,z0,i1,i2,i3,i4,i5⟩:=ht.Ζ;have hj:0<=j:=by omega
  have I:i<=(j.toNat:Int):=by omega
  have r : i<=max j 0:=by omega
  simp[execOp,aH ea K,aH ea hl,aH ea hh,Instr.sliceAt,Instr.slice,run_underlying ht.under,Instr.sliceBounds,Instr.sliceBound,asIntOf,h0,hj,U,r,sizeOf,typeInfo,i1,i4,Jk])
def MN.drop{α:Type}{w:World}{Β:α->LV}{sz:Nat}{M:OA}{D:List α}(h:MN w Β sz M D){cap:Nat}(hc:D.length<=cap)(k:Nat):MN w Β sz (Jk M cap sz k) (D.drop k):=by
 obtain⟨J,U⟩:=h;refine⟨λx K=>J x (List.mem_of_mem_drop K),?_⟩;by_cases hk:D.length<=k
 .exact .inl (List.drop_eq_nil_of_le hk)
 .rcases U with U|⟨a,rfl,h3⟩
  .subst U;simp at hk
  .refine .inr ⟨a.add (k*sz),?_,?_⟩
   .have:¬cap=k:=by omega
    simp[Jk,this]
   .intro i v hv
    have e:(a.add (k*sz)).add i=a.add (k*sz+i):=by
     unfold Addr.add;(repeat' split)<;>first|rfl|omega|(simp;omega)|(simp_all;done)
    rw[e];apply h3;have r:D.flatMap Β=(D.take k).flatMap Β++(D.drop k).flatMap Β:=by rw[<-List.flatMap_append,List.take_append_drop]
    have I:((D.take k).flatMap Β).length=k*sz:=by
     rw[cF (λx K=>J x (List.mem_of_mem_take K)),List.length_take,Nat.min_eq_left (by omega)]
    rw[r,List.getElem?_append_right (by omega),I];rw[show k*sz+i - k*sz=i by omega];exact hv
def MN.take{α:Type}{w:World}{Β:α->LV}{sz:Nat}{M:OA}{D:List α}(h:MN w Β sz M D)(k:Nat):MN w Β sz M (D.take k):=by
 obtain⟨J,U⟩:=h;refine⟨λx K=>J x (List.mem_of_mem_take K),?_⟩;rcases U with U|⟨a,rfl,h3⟩
 .exact .inl (by simp[U])
 .refine .inr ⟨a,rfl,λi v hv=>h3 i v ?_⟩;have r:D.flatMap Β=(D.take k).flatMap Β++(D.drop k).flatMap Β:=by rw[<-List.flatMap_append,List.take_append_drop]
  rw[r,List.getElem?_append_left (List.getElem?_eq_some_iff.1 hv).1];exact hv
theorem C7.drop{α:Type}{Β:α->LV}{sz:Nat}{M:OA}{D:List α}(h:C7 L M α Β sz D){cap:Nat}(hc:D.length<=cap)(k:Nat):C7 L (Jk M cap sz k) α Β sz (D.drop k):=⟨λθ Α w s=>(h.rd θ Α w s).drop hc k⟩
theorem C7.take{α:Type}{Β:α->LV}{sz:Nat}{M:OA}{D:List α}(h:C7 L M α Β sz D)(k:Nat):C7 L M α Β sz (D.take k):=⟨λθ Α w s=>(h.rd θ Α w s).take k⟩
def omap{α:Type}(Β:α->Value)(b:Nat)(m:List (Int×α)):HP:=λ_ h =>
 ∃es r,h b=some (.map es r)/\es.toList.map (λe=>(e.key,e.val))=m.map (λp=>(Value.int .i64 p.1,Β p.2))/\(m.map (·.1)).Nodup/\es.size<=r/\(∀e∈es,e.born<r)/\(es.toList.map (·.born)).Nodup
class RG (L:LH) (b:Nat) (α:outParam Type) (Β:outParam (α->Value)) (m:outParam (List (Int×α))) (Α:outParam (LH)):Prop where
 perm:L.Perm (omap Β b m::Α)
def PS{α:Type}(m:List (Int×α))(k:Int)(a:α):List (Int×α):=if m.any (λp=>p.1 == k) then m.map (λp=>if p.1=k then(k,a) else p) else m++[(k,a)]
def Pf{α:Type}(m:List (Int×α))(k:Int):List (Int×α):=m.filter (λp=>!(p.1 == k))
def Sat.RH{α:Type}{θ:Th}{Β:α->Value}{b:Nat}{m:List (Int×α)}{L:LH}{w:World}(s:Sat θ (omap Β b m::L) w) :
  ∃es r,es.toList.map (λe=>(e.key,e.val))=m.map (λp=>(Value.int .i64 p.1,Β p.2))/\(m.map (·.1)).Nodup/\es.size<=r/\(∀e∈es,e.born<r)/\(es.toList.map (·.born)).Nodup/\Sat θ (h1 b (.map es r)::L) w:=by
 obtain⟨ok,ι,h,a,b1,c,F9,D7,C3,d1,d2,d3,d4,⟨es,r,e1,e2,e3,e4,e5,e6⟩,d6⟩:=s;exact⟨es,r,e2,e3,e4,e5,e6,ok,ι,h,a,b1,c,F9,D7,C3,d1,d2,d3,d4,e1,d6⟩
def Sat.d7{α:Type}{θ:Th}{Β:α->Value}{b:Nat}{m:List (Int×α)}{L:LH}{w:World}{es:Array MapEntry}{r:Nat}(s:Sat θ (h1 b (.map es r)::L) w)
  (J:es.toList.map (λe=>(e.key,e.val))=m.map (λp=>(Value.int .i64 p.1,Β p.2))) (U:(m.map (·.1)).Nodup) (h3:es.size<=r) (h4:∀e∈es,e.born<r) (h5:(es.toList.map (·.born)).Nodup):Sat θ (omap Β b m::L) w:=by
 obtain⟨ok,ι,h,a,b1,c,F9,D7,C3,d1,d2,d3,d4,d5,d6⟩:=s;exact⟨ok,ι,h,a,b1,c,F9,D7,C3,d1,d2,d3,d4,⟨es,r,d5,J,U,h3,h4,h5⟩,d6⟩
def Ef.makeMap{t:TypeId}{α:Type}(Β:α->Value):Ef P L env (.makeMap t none) ty (λv Y=>∃b,v=.map (some b)/\Y = omap Β b []::L) :=
 Ef.val (λθ Α a w ea s r pos af g=>⟨_,w.alloc (.map #[] 0),_,by simp[execOp,Instr.makeMap],⟨_,rfl,rfl⟩,Sat.d7 s.alloc (by simp) (by simp) (by simp) (by simp) (by simp)⟩)
def mK{α:Type}{Β:α->Value}{kk:IntKind}(k:Int):∀(es:List MapEntry) (m:List (Int×α)) (i:Nat),es.map (λe=>(e.key,e.val))=m.map (λp=>(Value.int .i64 p.1,Β p.2)) ->
  Instr.findNow (.int kk) (.int .i64 k) es i=some ((m.findIdx? (λp=>p.1 == k)).map λj=>(i+j,(m[j]?.map (λp=>Β p.2)).getD undef))
 | [],[],i,_=>by simp[Instr.findNow]
 | [],_::_,_,h=>by simp at h
 | _::_,[],_,h=>by simp at h
 | e::es,p::m,i,h=>by
  simp only[List.map_cons,List.cons.injEq,Prod.mk.injEq] at h;obtain⟨⟨J,U⟩,h3⟩:=h;have ih:=mK (kk:=kk) k es m (i+1) h3;simp only[Instr.findNow,J,Instr.sameNow,if_true];by_cases hk:k=p.1
  .subst hk;simp[List.findIdx?_cons,U]
  .have hb:(k == p.1)=false:=by simpa using hk
   have r : (p.1 == k)=false:=by simpa using λh=>hk h.symm
   simp only[hb,ih,List.findIdx?_cons,r];cases List.findIdx? (λp=>p.1 == k) m<;>simp;omega
def ka{t:TypeId}{k:IntKind}{kk:IntKind}{n:Int}{w:World}{b:Bool}(h:P.underlying t=some (.int kk)):(Instr.checkKey b 10000 t (.int k n)).run P w=.ok () w:=by
 have:∀m,(Instr.checkKey b (m+1) t (.int k n)).run P w=.ok () w:=λm=>by simp[Instr.checkKey,run_underlying h]
 exact this 9999
class RI (P:Program) (bU:Nat) (Τ:outParam Nat) (z:outParam Value):Prop where
 ok:∃Ν k,P.underlying bU=some (.map Ν Τ)/\P.underlying Ν=some (.int k)/\(P.info? Τ).map (·.zero)=some (some z)
def gN{w:World}{b:Nat}{es r : Array MapEntry}{c c' : Nat}(hb:w.heap[b]? = some (.map es c)):(setObj b (.map r c')).run P w=.ok () { w with heap:=w.heap.setIfInBounds b (.map r c') }:=by simp[setObj,Sem.run,hb]
def Sat.Nr{θ:Th}{b:Nat}{o o' : Obj}{L:LH}{w:World}(s:Sat θ (h1 b o::L) w):Sat θ (h1 b o'::L) { w with heap:=w.heap.setIfInBounds b o' }:=by
 have hb:=s.IN;have r:=(Array.getElem?_eq_some_iff.1 hb).1;refine s.update ⟨s.1.tape,s.1.os,s.1.output,s.1.drawn⟩ ?_ (λk x hk K=>?_)
 .simp[r]
 .simp only;rw[Array.getElem?_setIfInBounds_ne (Ne.symm hk)];exact K
def Ec{α:Type}{m:List (Int×α)}{k:Int}{a:α}(h:(m.map (·.1)).Nodup):((PS m k a).map (·.1)).Nodup:=by
 unfold PS;split
 .rw[List.map_map]
  have:(λp:Int×α=>(if p.1=k then(k,a) else p).1)=(·.1):=by
   funext p;split
   .rename_i h;exact h.symm
   .rfl
  show((m.map ((·.1) ∘ λp=>if p.1=k then(k,a) else p))).Nodup;rw[show((·.1) ∘ λp:Int×α=>if p.1=k then(k,a) else p)=(λp:Int×α=>(if p.1=k then(k,a) else p).1) from rfl,this];exact h
 .rename_i hn;rw[List.map_append,List.nodup_append];refine⟨h,by simp,?_⟩;intro x K y Z;simp at Z;subst Z;rintro rfl;apply hn;obtain⟨p,hp,rfl⟩:=IY K;exact List.any_eq_true.2 ⟨p,hp,by simp⟩
def sI{α:Type}{m:List (Int×α)}{k:Int}{j:Nat}(h:m.findIdx? (λp=>p.1 == k)=some j):m.any (λp=>p.1 == k)=true:=by
 obtain⟨r,J,_⟩:=List.findIdx?_eq_some_iff_getElem.1 h;exact List.any_eq_true.2 ⟨m[j],List.getElem_mem r,J⟩
def kM{α:Type}{k:Int}{a:α}:∀{m:List (Int×α)} {j:Nat},(m.map (·.1)).Nodup->m.findIdx? (λp=>p.1 == k)=some j->m.map (λp=>if p.1=k then(k,a) else p)=m.set j (k,a)
 | [],j,_,h=>by simp at h
 | p::m,j,hn,h=>by
  simp only[List.map_cons,List.nodup_cons] at hn;rw[List.findIdx?_cons] at h;by_cases hk:p.1=k
  .simp[hk] at h;subst h;simp only[List.map_cons,hk,if_true,List.set_cons_zero,List.cons.injEq,true_and];rw[List.map_congr_left (g:=id),List.map_id];intro q hq;have:q.1≠k:=λe=>hn.1 (by rw[hk,<-e];exact List.mem_map_of_mem hq);simp[this]
  .have hb:(p.1 == k)=false:=by simpa using hk
   simp only[hb] at h;obtain⟨i,hi,rfl⟩:=Option.map_eq_some_iff.1 h;simp only[List.map_cons,hk,if_false,List.set_cons_succ,List.cons.injEq,true_and];exact kM hn.2 hi
def Ef.mapUpdate{t:TypeId}{x y z' : Operand}{b Τ:Nat}{z v:Value}{α:Type}{Β:α->Value}{m:List (Int×α)}{D8:LH}{k:Int}(e:α)[ht:RI P t Τ z][hp:RG L b α Β m D8](K:χ env x=some (.map (some b)))(Z:χ env y=some (.int .i64 k))(hz:χ env z' = some v)(hv:v=Β e)
  : Ef P L env (.mapUpdate t x y z') ty (λ_ Y=>Y = omap Β b (PS m k e)::D8) :=
 Ef.skip (λθ Α a w ea s b3 pos af g=>by
  subst hv;obtain⟨Ν,kk,J,U,h3⟩:=ht.ok;obtain⟨es,r,e1,e2,e3,e4,e5,s2⟩:=(s.perm (hp.perm.append_right Α)).RH;have hb:=s2.IN;have hf:=mK (kk:=kk) k es.toList m 0 e1;have I:(getObj b).run P w=.ok (.map es r) w:=by simp[getObj,Sem.run,hb]
  have a9:=Ec (k:=k) (a:=e) e2;cases hj:m.findIdx? (λp=>p.1 == k) with
  | none =>
   rw[hj] at hf;simp only[Option.map_none] at hf
   have b1:m.any (λp=>p.1 == k)=false:=by
    rw[List.findIdx?_eq_none_iff] at hj;simpa using hj
   refine⟨_,_,?_,rfl,Sat.d7 (s2.Nr (o':=.map (es.push { key:=.int .i64 k,val:=Β e,born:=r }) (r+1))) ?_ a9 ?_ ?_ ?_⟩
   .simp[execOp,aH ea K,aH ea Z,aH ea hz,Instr.mapUpdate,run_underlying J,I,ka U,Instr.findKey,run_underlying U,hf,gN hb]
   .simp[e1,PS,b1]
   .simp;omega
   .intro x K;rcases Array.mem_push.1 K with K|rfl
    .have:=e4 x K;omega
    .simp
   .simp only[Array.toList_push,List.map_append,List.map_cons,List.map_nil];rw[List.nodup_append];refine⟨e5,by simp,?_⟩;intro x K y Z;simp at Z;subst Z;obtain⟨q,hq,rfl⟩:=IY K;have:=e4 q (by simpa using hq)
    omega
  | some j =>
   rw[hj] at hf;simp only[Option.map_some,Nat.zero_add] at hf;have a4:=sI hj;have a6:=kM (a:=e) e2 hj;obtain⟨a3,a7,_⟩:=List.findIdx?_eq_some_iff_getElem.1 hj
   have b4:es.size=m.length:=by
    have:=congrArg List.length e1
    simpa using this
   have a5:((es[j]?).map (·.key)).getD (Value.int .i64 k)=.int .i64 k:=by
    have h5:=congrArg (λl=>l[j]?) e1;simp only[List.getElem?_map,List.getElem?_eq_getElem a3,Array.getElem?_toList] at h5;rw[Array.getElem?_eq_getElem (by omega)] at h5 ⊢;simp at h5 ⊢;rw[h5.1];simp at a7;rw[a7]
   have b2:(Instr.keyThatStays (((es[j]?).map (·.key)).getD (Value.int .i64 k)) (.int .i64 k)).run P w=.ok (.int .i64 k) w:=by
    rw[a5]
    have:Instr.sameBits 10000 (.int .i64 k) (.int .i64 k)=true:=by
     show Instr.sameBits (9999+1) (.int .i64 k) (.int .i64 k)=true;simp[Instr.sameBits]
    simp[Instr.keyThatStays,this]
   refine⟨_,_,?_,rfl,Sat.d7 (s2.Nr (o':=.map (es.modify j λx=>{ x with key:=.int .i64 k,val:=Β e }) r)) ?_ a9 ?_ ?_ ?_⟩
   .simp[execOp,aH ea K,aH ea Z,aH ea hz,Instr.mapUpdate,run_underlying J,I,ka U,Instr.findKey,run_underlying U,hf,b2,gN hb]
   .simp only[PS,a4,if_true,a6];rw[Array.toList_modify];apply List.ext_getElem?;intro i;have h5:=congrArg (λl=>l[i]?) e1;simp only[List.getElem?_map] at h5;simp only[List.getElem?_map,List.getElem?_modify,List.getElem?_set];by_cases a2:j=i
    .subst a2;have b0:j<es.toList.length:=by simp;omega
     simp[a3,List.getElem?_eq_getElem b0]
    .simp only[a2,if_false];cases hq:es.toList[i]? with
     | none=>rw[hq] at h5;simpa using h5
     | some q=>rw[hq] at h5;simpa using h5
   .simpa using e3
   .intro x K;obtain⟨i,hi,rfl⟩:=Array.mem_iff_getElem.1 K;rw[Array.getElem_modify];have h6:es[i]'(by simpa using hi)∈es:=Array.getElem_mem _;split
    .exact e4 (es[i]'(by simpa using hi)) h6
    .exact e4 _ h6
   .have:(es.modify j λx=>{ x with key:=.int .i64 k,val:=Β e }).toList.map (·.born)=es.toList.map (·.born):=by
     rw[Array.toList_modify];apply List.ext_getElem?;intro i;simp only[List.getElem?_map,List.getElem?_modify];by_cases a2:j=i
     .subst a2;cases es.toList[j]?<;>simp
     .simp[a2]
    rw[this];exact e5)
def xd{α:Type}{k:Int}:∀{m:List (Int×α)} {j:Nat},(m.map (·.1)).Nodup->m.findIdx? (λp=>p.1 == k)=some j->Pf m k=m.eraseIdx j
 | [],j,_,h=>by simp at h
 | p::m,j,hn,h=>by
  simp only[List.map_cons,List.nodup_cons] at hn;rw[List.findIdx?_cons] at h;by_cases hk:p.1=k
  .simp[hk] at h;subst h;simp only[Pf,List.filter_cons,hk,beq_self_eq_true,Bool.not_true,Bool.false_eq_true,if_false,List.eraseIdx_zero,List.tail_cons];apply List.filter_eq_self.2;intro q hq;have:q.1≠k:=λe=>hn.1 (by rw[hk,<-e];exact List.mem_map_of_mem hq);simp[this]
  .have hb:(p.1 == k)=false:=by simpa using hk
   simp only[hb] at h;obtain⟨i,hi,rfl⟩:=Option.map_eq_some_iff.1 h;have ih:=xd hn.2 hi;simp only[Pf,List.filter_cons,hb,Bool.not_false,if_true,List.eraseIdx_cons_succ,List.cons.injEq,true_and];exact ih
def iT{β γ:Type}(f:β->γ):∀(l:List β) (j:Nat),(l.eraseIdx j).map f=(l.map f).eraseIdx j
 | [],j=>by simp
 | x::l,0=>by simp
 | x::l,j+1=>by simp[iT f l j]
def Ef.delete{t kt:TypeId}{x y:Operand}{b Τ:Nat}{z:Value}{α:Type}{Β:α->Value}{m:List (Int×α)}{D8:LH}{k:Int}[ht:RI P t Τ z][hp:RG L b α Β m D8](K:χ env x=some (.map (some b)))(Z:χ env y=some (.int .i64 k))
  : Ef P L env (.call { callee:=.builtin .delete,args:=#[x,y],argTypes:=#[t,kt] }) ty (λ_ Y=>Y = omap Β b (Pf m k)::D8) :=
 Ef.val (λθ Α a w ea s a7 pos af g=>by
  obtain⟨Ν,kk,J,U,h3⟩:=ht.ok;obtain⟨es,r,e1,e2,e3,e4,e5,s2⟩:=(s.perm (hp.perm.append_right Α)).RH;have hb:=s2.IN;have hf:=mK (kk:=kk) k es.toList m 0 e1;have I:(getObj b).run P w=.ok (.map es r) w:=by simp[getObj,Sem.run,hb]
  have a5:((Pf m k).map (·.1)).Nodup:=e2.sublist ((List.filter_sublist).map _)
  have b0:es.size=m.length:=by
   have:=congrArg List.length e1
   simpa using this
  cases hj:m.findIdx? (λp=>p.1 == k) with
  | none =>
   rw[hj] at hf;simp only[Option.map_none] at hf;have a3:=List.findIdx?_eq_none_iff.1 hj;have he:Pf m k=m:=List.filter_eq_self.2 λp hp=>by simp[a3 p hp]
   refine⟨.tuple #[],_,_,?_,rfl,Sat.d7 (s2.Nr (o':=.map es r)) (by rw[he];exact e1) a5 e3 e4 e5⟩;simp[execOp,resolve,invoke,builtin,aH ea K,aH ea Z,Builtin.delete_,run_underlying J,I,ka U,Instr.findKey,run_underlying U,hf,gN hb]
  | some j =>
   rw[hj] at hf;simp only[Option.map_some,Nat.zero_add] at hf;have a4:=xd e2 hj;obtain⟨a6,a9,_⟩:=List.findIdx?_eq_some_iff_getElem.1 hj
   have a2:(es.eraseIdxIfInBounds j).toList=es.toList.eraseIdx j:=by
    simp[Array.eraseIdxIfInBounds,show j<es.size by omega]
   refine⟨.tuple #[],_,_,?_,rfl,Sat.d7 (s2.Nr (o':=.map (es.eraseIdxIfInBounds j) r)) ?_ a5 ?_ ?_ ?_⟩
   .simp[execOp,resolve,invoke,builtin,aH ea K,aH ea Z,Builtin.delete_,run_underlying J,I,ka U,Instr.findKey,run_underlying U,hf,gN hb]
   .rw[a2,a4,iT,iT,e1]
   .have h7:(es.eraseIdxIfInBounds j).size=(es.toList.eraseIdx j).length:=by rw[<-a2,Array.length_toList]
    have h8:(es.toList.eraseIdx j).length<=es.toList.length:=List.length_eraseIdx_le es.toList j;have h9:es.toList.length=es.size:=Array.length_toList;omega
   .intro x K;have:x∈es.toList.eraseIdx j:=by rw[<-a2];exact Array.mem_toList_iff.2 K
    exact e4 x (by simpa using List.mem_of_mem_eraseIdx this)
   .rw[a2,iT];exact e5.sublist (List.eraseIdx_sublist _ _))
end ops
end
section
class OF (L:LH) (Μ:HP) (Α:outParam (LH)):Prop where
 perm:L.Perm (Μ::Α)
instance (Μ:HP)(L:LH):OF (Μ::L) Μ L:=⟨List.Perm.refl _⟩
instance (Μ cq:HP)(L Α:LH)[h:OF L Μ Α]:OF (cq::L) Μ (cq::Α):=⟨(h.perm.cons cq).trans (List.Perm.swap _ _ _)⟩
def A.take{L Α pre R' : LH}{Μ:HP}[h:OF L Μ Α](hr:A Α (pre++R')):A L ((Μ::pre)++R'):=(A.perm h.perm).trans hr.cons
def A.m6{L Α Y : LH}{Μ:HP}[h:OF L Μ Α](hr:A Α Y):A L (Μ::Y):=(A.perm h.perm).trans hr.cons
def Ef.d8{P:Program}{env:Env}{L:LH}{f:FuncId}{D:Array Operand}{ats:Array TypeId}{ty:TypeId}{vs:LV}{post:Value->LH->Prop}
  (c:Λ P f vs.toArray L post) (hv:eG env D.toList=some vs):Ef P L env (.call { callee:=.value (.func f),args:=D,argTypes:=ats }) ty post:=by
 have h:=Ef.call (R':=[]) (L:=L) (ats:=ats) (ty:=ty) c hv (by rw[List.append_nil];exact A.refl _);intro θ Α a w o next F8 ha s J U hn
 refine h θ Α a w o next F8 ha s J U ?_
 rintro v Y ab ⟨L₁,hp,rfl⟩ s';rw[List.append_nil] at s';exact hn v L₁ ab hp s'
def A.mk{L Y : LH}(h:∀θ Α w,Sat θ (L++Α) w->Sat θ (Y++Α) w):A L Y:=h
def A.sat{L Y : LH}(h:A L Y){θ:Th}{Α:LH}{w:World}(s:Sat θ (L++Α) w):Sat θ (Y++Α) w:=h θ Α w s
def A.o0{Μ cq:HP}{L:LH}(h:∀θ Α w,Sat θ (Μ::Α) w->Sat θ (cq::Α) w):A (Μ::L) (cq::L):=λθ Α w s=>h θ (L++Α) w s
section at_
variable {P:Program}{N:Nat}{env:Env}{L:LH}{Ν:E1}{ty:TypeId}{v:Value}
def O.v6{x:Operand}(h:O P L env (.move x) ty v):O P L env (.move x) ty v:=h
def O.p7{x:Operand}(h:O P L env (.assign x) ty v):O P L env (.assign x) ty v:=h
def O.u9{a b c:Operand}(h:O P L env (.pick a b c) ty v):O P L env (.pick a b c) ty v:=h
def O.o6{x:Operand}{i:Nat}(h:O P L env (.extract x i) ty v):O P L env (.extract x i) ty v:=h
def O.w9{o:BinOp}{t yt:TypeId}{x y:Operand}(h:O P L env (.binOp o t x y yt) ty v):O P L env (.binOp o t x y yt) ty v:=h
def O.z2{o:UnOp}{t:TypeId}{x:Operand}(h:O P L env (.unOp o t x) ty v):O P L env (.unOp o t x) ty v:=h
def O.l8{s t:TypeId}{x:Operand}(h:O P L env (.convert s t x) ty v):O P L env (.convert s t x) ty v:=h
def O.w8{x:Operand}(h:O P L env (.nilCheck x) ty v):O P L env (.nilCheck x) ty v:=h
def O.l0{s f:Nat}{x:Operand}(h:O P L env (.fieldAddr s x f) ty v):O P L env (.fieldAddr s x f) ty v:=h
def O.o0{t:TypeId}{x:Operand}(h:O P L env (.load t x) ty v):O P L env (.load t x) ty v:=h
def O.j7{t:TypeId}{x i:Operand}(h:O P L env (.indexAddr t x i) ty v):O P L env (.indexAddr t x i) ty v:=h
def O.q9{t:TypeId}{ps:Array (Nat×Operand)}(h:O P L env (.build t ps) ty v):O P L env (.build t ps) ty v:=h
def O.q8{t:TypeId}{x:Operand}{a b c:Option Operand}(h:O P L env (.slice t x a b c) ty v):O P L env (.slice t x a b c) ty v:=h
def O.v8{c:Call}(h:O P L env (.call c) ty v):O P L env (.call c) ty v:=h
def O.v7{fn:Fn}{fs cs:Array Operand}(h:O P L env (.makeFunc fn fs cs) ty v):O P L env (.makeFunc fn fs cs) ty v:=h
variable {ops:Array Oper}{ic:List Oper}{op:Op}{pos:String}{af:Array Edge}
def R.a8{Ξ:Nat}(h:R P N ops (⟨some Ξ,op,ty,pos,af,none⟩::ic) env L Ν):R P N ops (⟨some Ξ,op,ty,pos,af,none⟩::ic) env L Ν:=h
def R.g8(h:R P N ops (⟨none,op,ty,pos,af,none⟩::ic) env L Ν):R P N ops (⟨none,op,ty,pos,af,none⟩::ic) env L Ν:=h
def R.d8{Ξ j:Nat}{b:Bool}(h:R P N ops (⟨some Ξ,op,ty,pos,af,some (j,b)⟩::ic) env L Ν):R P N ops (⟨some Ξ,op,ty,pos,af,some (j,b)⟩::ic) env L Ν:=h
variable {done:List Nat}{kP:List Im}{D3:List PE}{i:Nat}
def GP.d9{s:Im}(h:GP P N ops done (s::kP) D3 env L Ν):GP P N ops done (s::kP) D3 env L Ν:=h
def Ο.c8{Ξ:Nat}(h:Ο P N ops done (.ev i) kP (some Ξ) op ty D3 env L Ν):Ο P N ops done (.ev i) kP (some Ξ) op ty D3 env L Ν:=h
def Ο.c9{Ξ:Nat}(h:Ο P N ops done (.ef i) kP (some Ξ) op ty D3 env L Ν):Ο P N ops done (.ef i) kP (some Ξ) op ty D3 env L Ν:=h
def Ο.c7(h:Ο P N ops done (.ef i) kP none op ty D3 env L Ν):Ο P N ops done (.ef i) kP none op ty D3 env L Ν:=h
def h2.a8{pe:PE}{ts acc:List PE}(h:h2 P N ops done i kP (pe::ts) acc env L Ν):h2 P N ops done i kP (pe::ts) acc env L Ν:=h
def Δ.j5(F:Nat){l:Array Oper}{dr:Bool}{x y:Code}(h:Δ P N (.seq (.seq (.region F l dr) x) y) env L Ν):Δ P N (.seq (.seq (.region F l dr) x) y) env L Ν:=h
def Δ.UI(F:Nat){l:Array Oper}{dr:Bool}{y:Code}(h:Δ P N (.seq (.region F l dr) y) env L Ν):Δ P N (.seq (.region F l dr) y) env L Ν:=h
def Δ.a8{F:Nat}{l:List Oper}(h:Δ P N (.region F l.toArray true) env L Ν):Δ P N (.region F l.toArray true) env L Ν:=h
end at_
end
section
section
variable {P:Program}{N:Nat}{env:Env}{L:LH}{Ν:E1}
def Δ.c9{c:Code}{φ:Prop}(h:∀θ Α w,Sat θ (L++Α) w->φ)(k:φ->Δ P N c env L Ν):Δ P N c env L Ν:=λΘ θ η a w hr i=>let ⟨_,_,_,s⟩:=i;k (h θ _ w s) Θ θ η a w hr i
def R.g9{r:Array Oper}{l:List Oper}{φ:Prop}(h:∀θ Α w,Sat θ (L++Α) w->φ)(k:φ->R P N r l env L Ν):R P N r l env L Ν:=λΘ θ η a w hr i=>let ⟨_,_,_,s⟩:=i;k (h θ _ w s) Θ θ η a w hr i
def Δ.υ{c:Code}{Y : LH}(hl:A L Y)(h:Δ P N c env Y Ν):Δ P N c env L Ν:=h.LO (J9.refl _) hl
def R.υ{r:Array Oper}{l:List Oper}{Y : LH}(hl:A L Y)(h:R P N r l env Y Ν):R P N r l env L Ν:=h.LO (J9.refl _) hl
def GP.υ{I:Array Oper}{done:List Nat}{kP:List Im}{r:List PE}{Y : LH}(hl:A L Y)(h:GP P N I done kP r env Y Ν):GP P N I done kP r env L Ν:=λhK hp hs a2 θ η a w S i a3 a4=>h hK hp hs a2 θ η a w S (i.less (J9.refl _) hl) a3 a4
def Ο.υ{a2:Array Oper}{done:List Nat}{kP:List Im}{r:List PE}{Y : LH}{s:Im}{I:Option Tmp}{op:Op}{ty:TypeId}(hl:A L Y)(h:Ο P N a2 done s kP I op ty r env Y Ν):Ο P N a2 done s kP I op ty r env L Ν:=λpos af g J U=>GP.υ hl (h pos af g J U)
def Δ.c7{α:Type}{x y:Code}(Inv:α->Prop)(e:α->Env)(l:α->LH)(h:Δ P N x env L (Ν.seq λr Y=>∃g,Inv g/\J9 r (e g)/\A Y (l g)))(h' : ∀g,Inv g->Δ P N y (e g) (l g) Ν):Δ P N (.seq x y) env L Ν :=
 Δ.mid _ h (by rintro r Y ⟨g,J,U,h3⟩;exact(h' g J).LO U h3)
def Δ.less{c:Code}{r : Env}(he:J9 env r)(h:Δ P N c r L Ν):Δ P N c env L Ν:=h.LO he (A.refl _)
def Δ.c8{α:Type}{c:Code}{f:α->LH}(h:∀x,Δ P N c env (f x++L) Ν):Δ P N c env (hex (λx=>bW (f x))::L) Ν:=Δ.open_ (φ:=λ_=>True) (Y:=λx=>f x++L) (λθ Α w s =>
 let ⟨x,s1⟩:=Sat.NK (show Sat θ (hex (λx=>bW (f x))::(L++Α)) w from s);⟨x,trivial,by rw[List.append_assoc];exact s1.KY⟩) (λx _=>h x)
def R.c8{α:Type}{r:Array Oper}{l:List Oper}{f:α->LH}(h:∀x,R P N r l env (f x++L) Ν):R P N r l env (hex (λx=>bW (f x))::L) Ν:=R.open_ (φ:=λ_=>True) (Y:=λx=>f x++L) (λθ Α w s =>
 let ⟨x,s1⟩:=Sat.NK (show Sat θ (hex (λx=>bW (f x))::(L++Α)) w from s);⟨x,trivial,by rw[List.append_assoc];exact s1.KY⟩) (λx _=>h x)
def A.f9{α:Type}{f:α->LH}{Α:LH}(x:α)(h:A L (f x++Α)):A L (hex (λx=>bW (f x))::Α):=λθ R' w s=>by
 have s1:=h θ R' w s;rw[List.append_assoc] at s1;exact Sat.c9 (f:=λx=>bW (f x)) x (Sat.a8 s1)
def A.pure{φ:Prop}{Y : LH}(hφ:φ)(h:A L Y):A L (dp φ::Y):=λθ Α w s=>Sat.Ox (h θ Α w s) hφ
def Δ.d7{c:Code}{φ:Prop}(h:φ->Δ P N c env L Ν):Δ P N c env (dp φ::L) Ν:=Δ.open_ (φ:=λ_:Unit=>φ) (Y:=λ_=>L) (λθ Α w s=>⟨(),Sat.Nq (show Sat θ (dp φ::(L++Α)) w from s),s.tail⟩) (λ_=>h)
def R.d7{r:Array Oper}{l:List Oper}{φ:Prop}(h:φ->R P N r l env L Ν):R P N r l env (dp φ::L) Ν:=R.open_ (φ:=λ_:Unit=>φ) (Y:=λ_=>L) (λθ Α w s=>⟨(),Sat.Nq (show Sat θ (dp φ::(L++Α)) w from s),s.tail⟩) (λ_=>h)
def A.dup{Μ:HP}(hA:PK Μ):A (Μ::L) (Μ::Μ::L):=λ_ _ _ s=>Sat.dup hA s
def A.JC{α:Type}{Β:α->LV}{sz Τ:Nat}{M:OA}{cap:Nat}{D:List α}:A (Υ Β sz Τ M cap D::L) (ε Β sz M D::L):=λ_ _ _ s=>Sat.JC s
def A.d9{α:Type}{Β:α->LV}{sz Τ b:Nat}{cs:LV}{D:List α}{n:Nat}(hc:cs=D.flatMap Β)(hn:D.length=n)(hs:∀x∈D,(Β x).length=sz)(hm:n<=9223372036854775807):A (obj b Τ cs::L) (Υ Β sz Τ (some ⟨b,0,none⟩) n D::L):=λθ Α w s=>by
 subst hc hn;exact Sat.Mu (show Sat θ (h1 b (.cells (D.flatMap Β).toArray Τ (0,0))::(L++Α)) w from s) hs (Nat.le_refl _) (by simp only[maxLen];omega) (by simp[cF hs]) (List.take_of_length_le (by rw[cF hs];exact Nat.le_refl _))
def A.c8{α:Type}(Β:α->LV)(sz Τ:Nat):A L (Υ Β sz Τ none 0 []::L):=λ_ _ _ s=>Sat.d9 Β sz Τ s
def A.f5{α:Type}(Β:α->LV)(sz:Nat)(M:OA):A L (ε Β sz M []::L):=λθ Α w s=>by
 obtain⟨ok,ι,h',a,b1,c,Ξ⟩:=s;exact⟨ok,ι,h',a,b1,c,Hp.emp,Hp.emp,h',Hp.a8 _,Hp.c7 _,Hp.a8 _,Hp.sub.refl _,⟨by simp,.inl rfl⟩,Ξ⟩
def mT{α:Type}{Β:α->LV}{sz:Nat}{D:List α}[h:C7 L none α Β sz D]:∀θ Α w,Sat θ (L++Α) w->D=[]:=λθ Α w s=>by
 rcases (h.rd θ Α w s).2 with h|⟨a,ha,_⟩
 .exact h
 .cases ha
def ke{α:Type}{Β:α->LV}{sz Τ:Nat}{M:OA}{cap:Nat}{D:List α}{R' : LH}[h:MO L M α Β sz Τ cap D R']:∀θ Α w,Sat θ (L++Α) w->D.length<=cap/\cap<=9223372036854775807:=λθ Α w s=>by
 have:=(s.perm (h.perm.append_right Α)).Lw
 simp only[maxLen] at this;exact⟨this.2.1,by omega⟩
def Ρ{α:Type}(f:α->HP)(l:List α):HP:=λι _=>∀x∈l,f x ι Hp.emp
def tE{α:Type}(f:α->HP)(l:List α):PK (Ρ f l):=λ_ _ h=>h
def A.a8{α:Type}(f:α->HP):A L (Ρ f []::L):=λθ Α w s=>by
 obtain⟨ok,ι,h',a,b1,c,Ξ⟩:=s;exact⟨ok,ι,h',a,b1,c,Hp.emp,Hp.emp,h',Hp.a8 _,Hp.c7 _,Hp.a8 _,Hp.sub.refl _,(by intro x K;cases K),Ξ⟩
structure JJ (Μ:HP):Prop where
 Mx:PK Μ
 mono:∀ι ι' h,Hp.sub ι ι'->Μ ι h->Μ ι' h
def cA{α:Type}(Β:α->LV)(sz:Nat)(M:OA)(D:List α):JJ (ε Β sz M D):=⟨kj Β sz M D,λι ι' h hs hi=>by
 obtain⟨J,U⟩:=hi;refine⟨J,?_⟩;rcases U with U|⟨g,off,r,Τ,fz,f1,f2,f3⟩
 .exact .inl U
 .exact .inr ⟨g,off,r,Τ,fz,f1,hs _ _ f2,f3⟩⟩
def A.g9{α:Type}{f:α->HP}{l l' : List α}(h:∀x∈l',x∈l):A (Ρ f l::L) (Ρ f l'::L):=λθ Α w s=>by
 obtain⟨ok,ι,h',a,b1,c,F9,D7,C3,d1,d2,d3,d4,d5,d6⟩:=s;exact⟨ok,ι,h',a,b1,c,F9,D7,C3,d1,d2,d3,d4,λx K=>d5 x (h x K),d6⟩
def A.j5{α:Type}{f:α->HP}(hf:∀x,JJ (f x)){x:α}{l:List α}:A (f x::Ρ f l::L) (Ρ f (x::l)::L):=λθ Α w s=>by
 obtain⟨ok,ι,h',a,b1,c,Na,D7,C3,d1,d2,d3,d4,d5,Qf,h₃,h₄,e1,e2,e3,e4,e5,e6⟩:=s;refine⟨ok,ι,h',a,b1,c,ι,Hp.emp,h₄,Hp.sub.refl _,Hp.c7 _,Hp.a8 _,e4.trans d4,?_,e6⟩;intro y Z;rcases Jr Z with rfl|Z
 .exact(hf _).mono _ _ _ d1 ((hf _).Mx _ _ d5)
 .exact(hf _).mono _ _ _ e1 (e5 y Z)
def A.c9{α:Type}{f:α->HP}(hf:∀x,JJ (f x)){l l' : List α}:A (Ρ f l::Ρ f l'::L) (Ρ f (l++l')::L):=λθ Α w s=>by
 obtain⟨ok,ι,h',a,b1,c,Na,D7,C3,d1,d2,d3,d4,d5,Qf,h₃,h₄,e1,e2,e3,e4,e5,e6⟩:=s;refine⟨ok,ι,h',a,b1,c,ι,Hp.emp,h₄,Hp.sub.refl _,Hp.c7 _,Hp.a8 _,e4.trans d4,?_,e6⟩;intro y Z;rcases It Z with Z|Z
 .exact(hf _).mono _ _ _ d1 (d5 y Z)
 .exact(hf _).mono _ _ _ e1 (e5 y Z)
def A.d7{α:Type}{f:α->HP}(hf:∀x,JJ (f x)){x:α}:A (f x::L) (Ρ f [x]::L):=λθ Α w s=>by
 obtain⟨ok,ι,h',a,b1,c,Na,D7,C3,d1,d2,d3,d4,d5,d6⟩:=s;refine⟨ok,ι,h',a,b1,c,Na,D7,C3,d1,d2,d3,d4,?_,d6⟩;intro y Z;simp at Z;subst Z;exact(hf _).Mx _ _ d5
def A.d8{α:Type}{f:α->HP}{l:List α}{x:α}(h:x∈l):A (Ρ f l::L) (f x::Ρ f l::L):=λθ Α w s=>by
 obtain⟨ok,ι,h',a,b1,c,Na,D7,C3,d1,d2,d3,d4,d5,d6⟩:=s;exact⟨ok,ι,h',a,b1,c,Na,Hp.emp,h',d1,Hp.c7 _,Hp.a8 _,Hp.sub.refl _,d5 x h,Na,D7,C3,d1,d2,d3,d4,d5,d6⟩
def A.My{α:Type}{Β:α->LV}{sz Τ:Nat}(M:OA){cap:Nat}{D:List α}{Α:LH}[h:MO L M α Β sz Τ cap D Α]:A L (ε Β sz M D::Α):=(A.perm h.perm).trans A.JC
def A.at{Μ:HP}{Α Y : LH}[h:OF L Μ Α](hr:A (Μ::Α) Y):A L Y:=(A.perm h.perm).trans hr
def A.swap{Μ cq:HP}:A (Μ::cq::L) (cq::Μ::L):=A.perm (List.Perm.swap _ _ _)
def A.c7{Μ:HP}{Y : LH}(h:A L Y):A (Μ::L) (Μ::Y):=h.cons
end
def B6.cell{P:Program}{N:Nat}{env:Env}{L D8:LH}{rs:List ResultVar}{vs cs:LV}{x b bU n:Nat}{t:TypeId}[ht:Jb P t n][hp:KP L b bU cs D8](h:env.lookup x=some (.pointer (some ⟨b,0,none⟩)))(hn:cs.length=n)(hr:B6 P N env L rs vs):B6 P N env L (.cell x t::rs) (.agg cs.toArray::vs):=by
 intro θ Α a w ea s g J U;have h3:=ea.at_ x _ h;have hb:=s.OB hp.perm;have hl:=run_loadCells_list (P:=P) w ⟨b,0,none⟩ cs (λj v hv=>by rw[fi,dI hb];simpa using hv);rw[hn] at hl;simp[List.mapM_cons,hr θ Α a w ea s g J U,U,h3,asAddr,loadVar,ht.run,Jb.L5,hl]
def B6.a8{P:Program}{N:Nat}{env:Env}{L D8:LH}{rs:List ResultVar}{vs:LV}{v:Value}{x b bU:Nat}{t:TypeId}[ht:Iv P t][hp:KP L b bU [v] D8](h:env.lookup x=some (.pointer (some ⟨b,0,none⟩)))(hr:B6 P N env L rs vs):B6 P N env L (.cell x t::rs) (v::vs):=by
 intro θ Α a w ea s g J U;have h3:=ea.at_ x _ h;have hb:=s.OB hp.perm;simp[List.mapM_cons,hr θ Α a w ea s g J U,U,h3,asAddr,loadVar,ht.run,dI hb]
def ew{α:Type}(f:α->HP)(l:List α):HP:=bW (l.map f)
def A.j0{α:Type}(f:α->HP){L:LH}:A L (ew f []::L):=λ_ _ _ s=>Sat.a8 (Μ:=[]) s
def A.k8{α:Type}{f:α->HP}{x:α}{l:List α}{L:LH}:A (f x::ew f l::L) (ew f (l++[x])::L):=λθ Α w s=>by
 have s1:Sat θ (ew f l::f x::(L++Α)) w:=s.perm (List.Perm.swap _ _ _);have s2:=Sat.KY s1;refine Sat.a8 (Μ:=(l++[x]).map f) ?_;simpa using s2
def A.Qk{α:Type}{f:α->HP}{x:α}{l:List α}{L:LH}:A (f x::ew f l::L) (ew f (x::l)::L):=λθ Α w s=>by
 have s1:Sat θ (ew f l::f x::(L++Α)) w:=s.perm (List.Perm.swap _ _ _);have s2:=Sat.KY s1;refine Sat.a8 (Μ:=(x::l).map f) ?_;exact s2.perm List.perm_middle
def A.Ql{α:Type}{f:α->HP}{x:α}{l:List α}{L:LH}:A (ew f (x::l)::L) (f x::ew f l::L):=λθ Α w s=>by
 have s2:Sat θ (f x::(l.map f++(L++Α))) w:=Sat.KY (Μ:=(x::l).map f) s;have s3:Sat θ (l.map f++(f x::(L++Α))) w:=s2.perm List.perm_middle.symm;exact(Sat.a8 (Μ:=l.map f) s3).perm (List.Perm.swap _ _ _)
def a0(k:IntKind)(x:Int):LV:=[.int k x]
def ga(k:IntKind)(x:Int):∀u∈a0 k x,u.oneCell' = true:=by simp[a0,Value.oneCell']
def mJ{α:Type}(f:α->Value)(D:List α):D.flatMap (λx=>[f x])=D.map f:=by
 induction D with
 | nil=>rfl
 | cons x D ih=>simp[ih]
