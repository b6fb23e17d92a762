/- Maps with keys of any type that is compared by value, ranges over maps, structs of integers compared. Holds for any program whose type tables are as the classes say. -/
import Derived.Test.YtlgpgjdggilkgaaGreatDoorEraf
import Derived.Maps.RangeRun
import Derived.Laws.StructEq
set_option linter.all false
namespace Go.V
class Mz (P:Program) (bU:Nat) (n:outParam Nat):Prop where
 under:P.underlying bU=some (.struct (P.fieldsOf bU))
 free:P.stoodInHeld bU=false
 guard:P.eqGuardType P.depth bU=false
 Pg : (P.fieldsOf bU).toList.map (λf => (f.name == "_", f.offset, P.underlying f.type)) = (List.range n).map λi => (false, i, some (.int .i64))
 one:∀f∈(P.fieldsOf bU).toList,∀w,(isAgg f.type).run P w=.ok false w
theorem Mz.of{P:Program}{bU n:Nat}(J:P.underlying bU=some (.struct (P.fieldsOf bU)))(U:P.stoodInHeld bU=false)(h3:P.eqGuardType P.depth bU=false)
  (h4 : (P.fieldsOf bU).toList.map (λf => (f.name == "_", f.offset, P.underlying f.type)) = (List.range n).map λi => (false, i, some (.int .i64)))
  (UJ:(P.fieldsOf bU).toList.all (λf=>(P.info? f.type).isSome)=true):Mz P bU n :=
 ⟨J,U,h3,h4,λf hf w=>by
  have h6 : (f.name == "_", f.offset, P.underlying f.type) ∈ (List.range n).map λi => (false, i, some (TypeDesc.int .i64)) := by rw [<- h4]; exact Kg hf
  obtain⟨i,_,hi⟩:=IY h6;simp only[Prod.mk.injEq] at hi;have hu:=hi.2.2.symm;simp[isAgg,run_underlying hu]⟩
def fP{P:Program}{bU:Nat}{cs:Array Value}{i:Nat}{v:Value}{w:World}(J:∀w,(isAgg bU).run P w=.ok false w)(h:cs[i]? = some v):(part bU cs i).run P w=.ok v w:=by
 simp[part,J w,h]
def Tp {P : Program} {w : World} {Ξ : Nat} {D ys : List Int} : ∀ (fs : List Field) (i : Nat), fs.map (λf => (f.name == "_", f.offset, P.underlying f.type)) = (List.range' i fs.length).map (λi => (false, i, some (TypeDesc.int .i64))) ->
  (∀f∈fs,∀w,(isAgg f.type).run P w=.ok false w)->i+fs.length=D.length->D.length=ys.length ->
  (Op.eqFields (Ξ+1) (D.map (Value.int .i64)).toArray (ys.map (Value.int .i64)).toArray fs).run P w=.ok (decide (D.drop i=ys.drop i)) w:=by
 intro fs;induction fs with
 | nil =>
  intro i _ _ U h3;simp only[aX] at U;rw[bN B,bN B];simp[Op.eqFields]
 | cons f fs ih =>
  intro i J ho U h3;simp only [aO] at U;simp only [aF,aO,List.range'_succ,List.cons.injEq,Prod.mk.injEq] at J;obtain ⟨⟨hn,hoff,hu⟩,hr⟩:=J;have hn' : f.name ≠ "_" := by simpa using hn
  have Qm:i<D.length:=B;have RN:i<ys.length:=B;have hf:=ho f (az ..);have e1:(D.map (Value.int .i64)).toArray[i]? = some (E D[i]):=by simp[Qm]
  have e2:(ys.map (Value.int .i64)).toArray[i]? = some (E ys[i]):=by simp[RN]
  have QO:=ih (i+1) hr (λg hg=>ho g (aB _ hg)) B h3;simp only[Op.eqFields,μ hn',hoff,Sem.run_bind,fP hf e1,fP hf e2,Result.andThen_ok,run_equalIn_int w Ξ f.type .i64 .i64 D[i] ys[i] hu];rw[bS Qm,bS RN];by_cases he:D[i]=ys[i]
  .simp only[he,beq_self_eq_true,Bool.not_true,dJ,if_false,QO,List.cons.injEq,true_and]
  .have hb:(D[i] == ys[i])=false:=by simpa using he
   simp only[hb,Bool.not_false,if_true,Sem.run_pure,List.cons.injEq,he,false_and,decide_false]
def lG{P:Program}{bU n:Nat}[h:Mz P bU n]{w:World}{Ξ:Nat}{D ys:List Int}(K:D.length=n)(Z:ys.length=n) :
  (Op.equalIn (Ξ+2) bU (.agg (D.map (Value.int .i64)).toArray) (.agg (ys.map (Value.int .i64)).toArray)).run P w=.ok (decide (D=ys)) w:=by
 rw[run_equalIn_struct w (Ξ+1) bU _ _ h.under h.free]
 have hl:(P.fieldsOf bU).toList.length=n:=by
  have:=congrArg List.length h.Pg
  simpa using this
 have:=Tp (P:=P) (w:=w) (Ξ:=Ξ) (D:=D) (ys:=ys) (P.fieldsOf bU).toList 0 (by rw[hl,<-List.range_eq_range'];exact h.Pg) h.one B B
 simpa using this
class OJ (cs:LV) (D:outParam (List Int)):Prop where
 eq:cs=D.map (Value.int .i64)
instance:OJ [] []:=⟨rfl⟩
instance (a:Int)(cs:LV)(D:List Int)[h:OJ cs D]:OJ (E a::cs) (a::D):=⟨by rw[h.eq];rfl⟩
section
variable {P:Program}{L:LH}{env:Env}{ty:TypeId}
def O.w7{t yt:TypeId}{x y:Operand}{n:Nat}[h:Mz P t n]{cs ds:LV}(K:χ env x=some (.agg cs.toArray))(Z:χ env y=some (.agg ds.toArray)){D ys:List Int}[hc:OJ cs D][hd:OJ ds ys](hl:D.length=n)(r : ys.length=n) :
  O P L env (.binOp .eql t x y yt) ty (.bool (dB (D=ys))) :=
 O.mk (λθ Α _ w ea s _ _ _ _=>by
  rw[hc.eq] at K;rw[hd.eq] at Z;have J:=lG (P:=P) (bU:=t) (w:=w) (Ξ:=9998) hl r;simp[execOp,aH ea K,aH ea Z,run_eqGuard_agg w .eql t x y _ _ h.guard,run_eql_struct,J,dd])
def O.w5{t yt:TypeId}{x y:Operand}{n:Nat}[h:Mz P t n]{cs ds:LV}(K:χ env x=some (.agg cs.toArray))(Z:χ env y=some (.agg ds.toArray)){D ys:List Int}[hc:OJ cs D][hd:OJ ds ys](hl:D.length=n)(r : ys.length=n) :
  O P L env (.binOp .neq t x y yt) ty (.bool (dB (¬D=ys))) :=
 O.mk (λθ Α _ w ea s _ _ _ _=>by
  rw[hc.eq] at K;rw[hd.eq] at Z;have J:=lG (P:=P) (bU:=t) (w:=w) (Ξ:=9998) hl r;simp[execOp,aH ea K,aH ea Z,run_eqGuard_agg w .neq t x y _ _ h.guard,run_neq_struct,J,dd])
end
class LQ (P:Program) (Ν:TypeId) {κ:Type} [DecidableEq κ] (kv:κ->Value):Prop where
 inj:∀a b,kv a=kv b->a=b
 check:∀e k w,(Instr.checkKey e 10000 Ν (kv k)).run P w=.ok () w
 bits:∀k,Instr.sameBits 10000 (kv k) (kv k)=true
 find:∀(k:κ) (es:List MapEntry) (ks:List κ) w,es.map (·.key)=ks.map kv->(Instr.findKey Ν (kv k) es).run P w=.ok ((ks.findIdx? (λq=>q == k)).bind λj=>(es[j]?).map λe=>(j,e.val)) w
def mL{κ:Type}[DecidableEq κ]{kv:κ->Value}{Ξ:TypeDesc}(hs:∀a b:κ,Instr.sameNow Ξ (kv a) (kv b)=some (decide (a=b)))(k:κ):∀(es:List MapEntry) (ks:List κ) (i:Nat),es.map (·.key)=ks.map kv ->
  Instr.findNow Ξ (kv k) es i=some ((ks.findIdx? (λq=>q == k)).bind λj=>(es[j]?).map λe=>(i+j,e.val))
 | [],[],i,_=>by simp[Instr.findNow]
 | [],_::_,_,h=>by simp at h
 | _::_,[],_,h=>by simp at h
 | e::es,p::ks,i,h=>by
  simp only[aF,List.cons.injEq] at h;obtain⟨J,h3⟩:=h;have ih:=mL hs k es ks (i+1) h3;simp only[Instr.findNow,J,hs];by_cases hk:k=p
  .subst hk;simp[List.findIdx?_cons]
  .have r : (p == k)=false:=by simpa using λh=>hk h.symm
   simp only[hk,decide_false,ih,List.findIdx?_cons,r];cases hf:List.findIdx? (λq=>q == k) ks<;>simp;rename_i j;rw[show i+1+j=i+(j+1) by omega]
def km{P:Program}{Ν:TypeId}{κ:Type}[DecidableEq κ]{kv:κ->Value}{w:World}(hs:∀a b:κ,(Op.equal Ν (kv a) (kv b)).run P w=.ok (decide (a=b)) w)(k:κ):∀(es:List MapEntry) (ks:List κ) (i:Nat),es.map (·.key)=ks.map kv ->
  (Instr.findAsking Ν (kv k) es i).run P w=.ok ((ks.findIdx? (λq=>q == k)).bind λj=>(es[j]?).map λe=>(i+j,e.val)) w
 | [],[],i,_=>by simp[Instr.findAsking]
 | [],_::_,_,h=>by simp at h
 | _::_,[],_,h=>by simp at h
 | e::es,p::ks,i,h=>by
  simp only[aF,List.cons.injEq] at h;obtain⟨J,h3⟩:=h;have ih:=km hs k es ks (i+1) h3;simp only[Instr.findAsking,J,Sem.run_bind,hs,Result.andThen_ok];by_cases hk:k=p
  .subst hk;simp[List.findIdx?_cons]
  .have r : (p == k)=false:=by simpa using λh=>hk h.symm
   simp only[hk,decide_false,dJ,if_false,ih,List.findIdx?_cons,r];cases hf:List.findIdx? (λq=>q == k) ks<;>simp;rename_i j;rw[show i+1+j=i+(j+1) by omega]
def cu(k:Int):Value:=E k
def LR(s:ByteArray):Value:=.string s
def B7(p:Int×Int):Value:=.agg ([p.1,p.2].map (Value.int .i64)).toArray
theorem Tq{P:Program}{Ν:TypeId}[h:LP P Ν .i64]:LQ P Ν cu where
 inj a b h:=by simpa [cu] using h
 check e k w:=by
  have:∀m,(Instr.checkKey e (m+1) Ν (cu k)).run P w=.ok () w:=λm=>by simp[Instr.checkKey,cu,run_underlying h.under]
  exact this 9999
 bits k:=by
  show Instr.sameBits (9999+1) (E k) (E k)=true;simp[Instr.sameBits]
 find k es ks w he:=by
  have:=mL (kv:=cu) (Ξ:=.int .i64) (λa b=>by simp[cu,Instr.sameNow];rfl) k es ks 0 he
  simp only[Instr.findKey,Sem.run_bind,run_underlying h.under,Result.andThen_ok,this,Sem.run_pure,cW]
theorem Tr{P:Program}{Ν:TypeId}[h:Pc P Ν]:LQ P Ν LR where
 inj a b h:=by simpa [LR] using h
 check e k w:=by
  have:∀m,(Instr.checkKey e (m+1) Ν (LR k)).run P w=.ok () w:=λm=>by simp[Instr.checkKey,LR,run_underlying h.under]
  exact this 9999
 bits k:=by
  show Instr.sameBits (9999+1) (.string k) (.string k)=true;simp only[Instr.sameBits,beq_toListBytes,beq_self_eq_true]
 find k es ks w he:=by
  have:=mL (kv:=LR) (Ξ:=.string) (λa b=>by simp only[LR,Instr.sameNow,beq_toListBytes,wW]) k es ks 0 he
  simp only[Instr.findKey,Sem.run_bind,run_underlying h.under,Result.andThen_ok,this,Sem.run_pure,cW]
def yY{P:Program}{Ν n:Nat}[h:Mz P Ν n]{e:Bool}{D:List Int}{w:World}(K:D.length=n):(Instr.checkKey e 10000 Ν (.agg (D.map (Value.int .i64)).toArray)).run P w=.ok () w:=by
 have hl:(P.fieldsOf Ν).toList.length=n:=by
  have:=congrArg List.length h.Pg
  simpa using this
 have main:∀k:Nat,(∀bU n,P.underlying bU=some (TypeDesc.int .i64)->(Instr.checkKey e k bU (E n)).run P w=.ok () w)->(Instr.checkKey e (k+1) Ν (.agg (D.map (Value.int .i64)).toArray)).run P w=.ok () w:=by
  intro k hk
  have aux : ∀ (fs : List Field) (i : Nat), fs.map (λf => (f.name == "_", f.offset, P.underlying f.type)) = (List.range' i fs.length).map (λi => (false, i, some (TypeDesc.int .i64))) ->
    (∀f∈fs,∀w,(isAgg f.type).run P w=.ok false w)->i+fs.length=D.length ->
    (forIn fs PUnit.unit λf Θ=>(do
     if f.name ≠ "_" then
      Instr.checkKey e k f.type (<- part f.type (D.map (Value.int .i64)).toArray f.offset)
      pure (ForInStep.yield PUnit.unit)
     else pure (ForInStep.yield PUnit.unit):Sem (ForInStep PUnit))).run P w=.ok PUnit.unit w:=by
   intro fs;induction fs with
   | nil=>intro i _ _ _;simp
   | cons f fs ih =>
    intro i J ho U;simp only [aO] at U;simp only [aF,aO,List.range'_succ,List.cons.injEq,Prod.mk.injEq] at J;obtain ⟨⟨hn,hoff,hu⟩,hr⟩:=J;have hn' : f.name ≠ "_" := by simpa using hn
    have Qm:i<D.length:=B;have hf:=ho f (az ..);have e1:(D.map (Value.int .i64)).toArray[i]? = some (E D[i]):=by simp[Qm]
    have QO:=ih (i+1) hr (λg hg=>ho g (aB _ hg)) B;rw[List.forIn_cons];simp only[μ hn',hoff,Sem.run_bind,fP hf e1,Result.andThen_ok,hk _ _ hu,Sem.run_pure];exact QO
  have:=aux (P.fieldsOf Ν).toList 0 (by rw[hl,<-List.range_eq_range'];exact h.Pg) h.one B
  simp only[Instr.checkKey,Sem.run_bind,run_underlying h.under,Result.andThen_ok];rw[<-Array.forIn_toList];simp at this ⊢;rw[this];rfl
 exact main 9999 λbU n hT=>by
  have:∀m,(Instr.checkKey e (m+1) bU (E n)).run P w=.ok () w:=λm=>by simp[Instr.checkKey,run_underlying hT]
  exact this 9998
theorem RO{P:Program}{Ν:TypeId}[h:Mz P Ν 2]:LQ P Ν B7 where
 inj a b h:=by
  simp[B7] at h;exact Prod.ext h.1 h.2
 check e k w:=yY (D:=[k.1,k.2]) rfl
 bits k:=by
  have:∀n,Instr.sameBits (n+1) (B7 k) (B7 k)=true:=λn=>by simp[Instr.sameBits,B7]
  exact this 9999
 find k es ks w he:=by
  have hq:∀a b:Int×Int,(Op.equal Ν (B7 a) (B7 b)).run P w=.ok (decide (a=b)) w:=by
   intro a b;have:=lG (P:=P) (bU:=Ν) (w:=w) (Ξ:=9998) (D:=[a.1,a.2]) (ys:=[b.1,b.2]) rfl rfl
   have e:decide ([a.1,a.2]=[b.1,b.2])=decide (a=b):=by
    obtain⟨I,a2⟩:=a;obtain⟨b1,b2⟩:=b;simp
   rw[<-e];exact this
  have U:=km (P:=P) (Ν:=Ν) (w:=w) hq k es ks 0 he;simp only[Instr.findKey,Sem.run_bind,run_underlying h.under,Result.andThen_ok];cases es with
  | nil =>
   cases ks with
   | nil=>simp[Instr.findNow]
   | cons _ _=>simp at he
  | cons x es =>
   cases ks with
   | nil=>simp at he
   | cons q ks =>
    have hk:x.key=B7 q:=by simp at he;exact he.1
    have hn:Instr.findNow (.struct (P.fieldsOf Ν)) (B7 k) (x::es) 0=none:=by simp[Instr.findNow,Instr.sameNow]
    rw[hn];simp only[cW] at U;exact U
class Nb {κ:Type} (kv:κ->Value) (v:Value) (k:outParam κ):Prop where
 eq:v=kv k
instance (n:Int):Nb cu (E n) n:=⟨rfl⟩
instance (s:ByteArray):Nb LR (.string s) s:=⟨rfl⟩
instance (a b:Int):Nb B7 (.agg #[E a,E b]) (a,b):=⟨rfl⟩
instance (n:Int):Nb cu (cu n) n:=⟨rfl⟩
def τ{κ α:Type}(kv:κ->Value)(Β:α->Value)(b:Nat)(m:List (κ×α)):HP:=λ_ h =>
 ∃es r,h b=some (.map es r)/\es.toList.map (λe=>(e.key,e.val))=m.map (λp=>(kv p.1,Β p.2))/\(m.map (·.1)).Nodup/\es.size<=r/\(∀e∈es,e.born<r)/\(es.toList.map (·.born)).Nodup
def Qo{κ α:Type}(kv:κ->Value)(Β:α->Value)(m done:List (κ×α))(x:Array MapEntry×Nat×Array Nat×List Nat):Prop :=
 x.1.toList.map (λe=>(e.key,e.val))=m.map (λp=>(kv p.1,Β p.2))/\(m.map (·.1)).Nodup/\x.1.size<=x.2.1/\(∀e∈x.1,e.born<x.2.1)/\(x.1.toList.map (·.born)).Nodup /\
  x.2.2.2.Nodup/\(∀j∈x.2.2.2,j<m.length)/\done=x.2.2.2.filterMap (λj=>m[j]?)/\x.2.2.1.toList=x.2.2.2.filterMap (λj=>(x.1[j]?).map (·.born))
def ft{κ α:Type}(kv:κ->Value)(Β:α->Value)(b:Nat)(m:List (κ×α))(Θ:Nat)(done:List (κ×α)):HP:=hex λx:Array MapEntry×Nat×Array Nat×List Nat =>
 bW [dp (Qo kv Β m done x),h1 b (.map x.1 x.2.1),h1 Θ (.mapIter (some b) x.2.1 x.2.2.1 x.2.1)]
class KQ (L:LH) (b:Nat) (κ α:outParam Type) (kv:outParam (κ->Value)) (Β:outParam (α->Value)) (m:outParam (List (κ×α))) (Α:outParam (LH)):Prop where
 perm:L.Perm (τ kv Β b m::Α)
instance {κ α:Type}(L:LH)(b:Nat)(kv:κ->Value)(Β:α->Value)(m:List (κ×α)):KQ (τ kv Β b m::L) b κ α kv Β m L:=⟨List.Perm.refl _⟩
instance {κ α:Type}(Μ:HP)(L:LH)(b:Nat)(kv:κ->Value)(Β:α->Value)(m:List (κ×α))(Α:LH)[h:KQ L b κ α kv Β m Α]:KQ (Μ::L) b κ α kv Β m (Μ::Α):=⟨(h.perm.cons Μ).trans (List.Perm.swap _ _ _)⟩
class PT (L:LH) (Θ:Nat) (κ α:outParam Type) (kv:outParam (κ->Value)) (Β:outParam (α->Value)) (b:outParam Nat) (m done:outParam (List (κ×α))) (Α:outParam (LH)):Prop where
 perm:L.Perm (ft kv Β b m Θ done::Α)
instance {κ α:Type}(L:LH)(b Θ:Nat)(kv:κ->Value)(Β:α->Value)(m done:List (κ×α)):PT (ft kv Β b m Θ done::L) Θ κ α kv Β b m done L:=⟨List.Perm.refl _⟩
instance {κ α:Type}(Μ:HP)(L:LH)(b Θ:Nat)(kv:κ->Value)(Β:α->Value)(m done:List (κ×α))(Α:LH)[h:PT L Θ κ α kv Β b m done Α]:PT (Μ::L) Θ κ α kv Β b m done (Μ::Α):=⟨(h.perm.cons Μ).trans (List.Perm.swap _ _ _)⟩
section mapsP
variable {κ α:Type}
def Sat.Nu{θ:Th}{kv:κ->Value}{Β:α->Value}{b:Nat}{m:List (κ×α)}{L:LH}{w:World}(s:Sat θ (τ kv Β b m::L) w) :
  ∃es r,es.toList.map (λe=>(e.key,e.val))=m.map (λp=>(kv p.1,Β p.2))/\(m.map (·.1)).Nodup/\es.size<=r/\(∀e∈es,e.born<r)/\(es.toList.map (·.born)).Nodup/\Sat θ (h1 b (.map es r)::L) w:=by
 obtain⟨ok,ι,h,a,b1,c,F9,D7,C3,d1,d2,d3,d4,⟨es,r,e1,e2,e3,e4,e5,e6⟩,d6⟩:=s;exact⟨es,r,e2,e3,e4,e5,e6,ok,ι,h,a,b1,c,F9,D7,C3,d1,d2,d3,d4,e1,d6⟩
def Sat.c8{θ:Th}{kv:κ->Value}{Β:α->Value}{b:Nat}{m:List (κ×α)}{L:LH}{w:World}{es:Array MapEntry}{r:Nat}(s:Sat θ (h1 b (.map es r)::L) w)
  (J:es.toList.map (λe=>(e.key,e.val))=m.map (λp=>(kv p.1,Β p.2))) (U:(m.map (·.1)).Nodup) (h3:es.size<=r) (h4:∀e∈es,e.born<r) (h5:(es.toList.map (·.born)).Nodup):Sat θ (τ kv Β b m::L) w:=by
 obtain⟨ok,ι,h,a,b1,c,F9,D7,C3,d1,d2,d3,d4,d5,d6⟩:=s;exact⟨ok,ι,h,a,b1,c,F9,D7,C3,d1,d2,d3,d4,⟨es,r,d5,J,U,h3,h4,h5⟩,d6⟩
def dR{kv:κ->Value}{Β:α->Value}{b:Nat}{m:List (κ×α)}{L Α:LH}[hp:KQ L b κ α kv Β m Α]:∀θ Α w,Sat θ (L++Α) w->(m.map (·.1)).Nodup:=λθ Α w s=>by
 obtain⟨es,r,e1,e2,_⟩:=(s.perm (hp.perm.append_right Α)).Nu;exact e2
end mapsP
section maps
variable {κ α:Type}[DecidableEq κ]
def fc(m:List (κ×α))(k:κ)(a:α):List (κ×α):=if m.any (λp=>p.1 == k) then m.map (λp=>if p.1=k then(k,a) else p) else m++[(k,a)]
def GO(m:List (κ×α))(k:κ):List (κ×α):=m.filter (λp=>!(p.1 == k))
def rJ{m:List (κ×α)}{k:κ}:(m.map (·.1)).findIdx? (λq=>q == k)=m.findIdx? (λp=>p.1 == k):=by
 induction m with
 | nil=>rfl
 | cons p m ih=>simp only[aF,List.findIdx?_cons,ih]
def mV{m:List (κ×α)}{k:κ}:(m.findIdx? (λp=>p.1 == k)).bind (λj=>m[j]?.map (·.2))=m.lookup k:=by
 induction m with
 | nil=>simp
 | cons p m ih =>
  obtain⟨q,x⟩:=p;simp only[List.findIdx?_cons,cj];by_cases hk:k=q
  .subst hk;simp
  .have hb:(k == q)=false:=by simpa using hk
   have r : (q == k)=false:=by simpa using λh=>hk h.symm
   simp only[hb,r,<-ih];cases List.findIdx? (λp=>p.1 == k) m<;>simp
def nS{P:Program}{Ν:TypeId}{kv:κ->Value}[hk:LQ P Ν kv]{Β:α->Value}{es:Array MapEntry}{m:List (κ×α)}(k:κ)(w:World)(he:es.toList.map (λe=>(e.key,e.val))=m.map (λp=>(kv p.1,Β p.2))) :
  (Instr.findKey Ν (kv k) es.toList).run P w=.ok ((m.findIdx? (λp=>p.1 == k)).bind λj=>(m[j]?).map λp=>(j,Β p.2)) w:=by
 have J:es.toList.map (·.key)=(m.map (·.1)).map kv:=by
  have:=congrArg (List.map Prod.fst) he
  simpa [cO,Function.comp_def] using this
 rw[hk.find k es.toList (m.map (·.1)) w J,rJ];congr 1;cases m.findIdx? (λp=>p.1 == k) with
 | none=>rfl
 | some j =>
  simp only[Option.bind_some];have U:=congrArg (λl=>l[j]?) he;simp only[List.getElem?_map] at U;cases hq:es.toList[j]? with
  | none =>
   rw[hq] at U;cases hm:m[j]? with
   | none=>rfl
   | some p=>rw[hm] at U;simp at U
  | some q =>
   rw[hq] at U;cases hm:m[j]? with
   | none=>rw[hm] at U;simp at U
   | some p=>rw[hm] at U;simp at U;simp[U.2]
def gY{m:List (κ×α)}{k:κ}{a:α}(h:(m.map (·.1)).Nodup):((fc m k a).map (·.1)).Nodup:=by
 unfold fc;split
 .rw[cO]
  have:(λp:κ×α=>(if p.1=k then(k,a) else p).1)=(·.1):=by
   funext p;split
   .rename_i h;exact h.symm
   .rfl
  show((m.map ((·.1) ∘ λp=>if p.1=k then(k,a) else p))).Nodup;rw[show((·.1) ∘ λp:κ×α=>if p.1=k then(k,a) else p)=(λp:κ×α=>(if p.1=k then(k,a) else p).1) from rfl,this];exact h
 .rename_i hn;rw[aL,fX];refine⟨h,by simp,?_⟩;intro x K y Z;simp at Z;subst Z;rintro rfl;apply hn;obtain⟨p,hp,rfl⟩:=IY K;exact List.any_eq_true.2 ⟨p,hp,by simp⟩
def kb{k:κ}{a:α}:∀{m:List (κ×α)} {j:Nat},(m.map (·.1)).Nodup->m.findIdx? (λp=>p.1 == k)=some j->m.map (λp=>if p.1=k then(k,a) else p)=m.set j (k,a)
 | [],j,_,h=>by simp at h
 | p::m,j,hn,h=>by
  simp only[aF,el] at hn;rw[List.findIdx?_cons] at h;by_cases hk:p.1=k
  .simp[hk] at h;subst h;simp only[aF,hk,if_true,fh,List.cons.injEq,true_and];rw[cK (g:=id),List.map_id];intro q hq;have:q.1≠k:=λe=>hn.1 (by rw[hk,<-e];exact Kg hq);simp[this]
  .have hb:(p.1 == k)=false:=by simpa using hk
   simp only[hb] at h;obtain⟨i,hi,rfl⟩:=Option.map_eq_some_iff.1 h;simp only[aF,hk,if_false,List.set_cons_succ,List.cons.injEq,true_and];exact kb hn.2 hi
def wq{k:κ}:∀{m:List (κ×α)} {j:Nat},(m.map (·.1)).Nodup->m.findIdx? (λp=>p.1 == k)=some j->GO m k=m.eraseIdx j
 | [],j,_,h=>by simp at h
 | p::m,j,hn,h=>by
  simp only[aF,el] at hn;rw[List.findIdx?_cons] at h;by_cases hk:p.1=k
  .simp[hk] at h;subst h;simp only[GO,List.filter_cons,hk,beq_self_eq_true,Bool.not_true,dJ,if_false,List.eraseIdx_zero,List.tail_cons];apply List.filter_eq_self.2;intro q hq;have:q.1≠k:=λe=>hn.1 (by rw[hk,<-e];exact Kg hq);simp[this]
  .have hb:(p.1 == k)=false:=by simpa using hk
   simp only[hb] at h;obtain⟨i,hi,rfl⟩:=Option.map_eq_some_iff.1 h;have ih:=wq hn.2 hi;simp only[GO,List.filter_cons,hb,Bool.not_false,if_true,List.eraseIdx_cons_succ,List.cons.injEq,true_and];exact ih
def mH{m:List (κ×α)}{k q:κ}{a:α}:(fc m k a).lookup q=if q=k then some a else m.lookup q:=by
 unfold fc;split
 .rename_i h;induction m with
  | nil=>simp at h
  | cons p m ih =>
   obtain⟨Θ,x⟩:=p;simp only[aF,cj];by_cases hr:Θ=k
   .subst hr;simp only[if_true,cj];by_cases hq:q=Θ
    .subst hq;simp
    .have hb:(q == Θ)=false:=by simpa using hq
     simp only[hb,hq,if_false];by_cases hm:m.any (λp=>p.1 == Θ)=true
     .have:=ih hm;simp only[hq,if_false] at this;exact this
     .rw[cK (g:=id),List.map_id];intro p hp;have:p.1≠Θ:=λe=>hm (List.any_eq_true.2 ⟨p,hp,by simp[e]⟩);simp[this]
   .have hm:m.any (λp=>p.1 == k)=true:=by
     simp only[List.any_cons] at h;have:(Θ == k)=false:=by simpa using hr
     simpa [this] using h
    simp only[hr,if_false,cj];by_cases hq:q=Θ
    .subst hq;simp[hr]
    .have hb:(q == Θ)=false:=by simpa using hq
     simp only[hb];exact ih hm
 .rename_i h;rw[List.lookup_append];by_cases hq:q=k
  .subst hq
   have:m.lookup q=none:=by
    rw[<-mV]
    have:m.findIdx? (λp=>p.1 == q)=none:=by
     rw[List.findIdx?_eq_none_iff];intro p hp;simp only[Bool.not_eq_true] at h;have:=List.any_eq_false.1 h p hp
     simpa using this
    simp[this]
   simp[this]
  .have hb:(q == k)=false:=by simpa using hq
   simp[cj,hb,hq]
def yH{m:List (κ×α)}{k q:κ}:(GO m k).lookup q=if q=k then none else m.lookup q:=by
 induction m with
 | nil=>simp[GO]
 | cons p m ih =>
  obtain⟨Θ,x⟩:=p;simp only[GO,List.filter_cons] at ih ⊢;by_cases hr:Θ=k
  .subst hr;simp only[beq_self_eq_true,Bool.not_true,dJ,if_false,ih,cj];by_cases hq:q=Θ
   .subst hq;simp
   .have hb:(q == Θ)=false:=by simpa using hq
    simp[hb,hq]
  .have hb:(Θ == k)=false:=by simpa using hr
   simp only[hb,Bool.not_false,if_true,cj];by_cases hq:q=Θ
   .subst hq;simp[hr]
   .have r:(q == Θ)=false:=by simpa using hq
    simp only[r];exact ih
def bT{m:List (κ×α)}{k:κ}{a:α}(h:m.lookup k=some a):(k,a)∈m:=by
 induction m with
 | nil=>cases h
 | cons p m ih =>
  obtain⟨q,x⟩:=p;rw[cj] at h;by_cases hk:k=q
  .subst hk;simp at h;subst h;exact az ..
  .have hb:(k == q)=false:=by simpa using hk
   simp only[hb] at h;exact aB _ (ih h)
def gP{m:List (κ×α)}(hn:(m.map (·.1)).Nodup){k:κ}{a:α}(h:(k,a)∈m):m.lookup k=some a:=by
 induction m with
 | nil=>cases h
 | cons p m ih =>
  obtain⟨q,x⟩:=p;simp only[aF,el] at hn;rw[cj];rcases Jr h with e|h'
  .simp only[Prod.mk.injEq] at e;obtain⟨rfl,rfl⟩:=e;simp
  .have:k≠q:=λe=>hn.1 (by rw[<-e];exact Kg (f:=(·.1)) h');have hb:(k == q)=false:=by simpa using this
   simp only[hb];exact ih hn.2 h'
end maps
section ops
variable {P:Program}{L:LH}{env:Env}{ty:TypeId}{κ α:Type}
class K0 (P:Program) (bU:Nat) (Ν Τ:outParam Nat) (z:outParam Value):Prop where
 under:P.underlying bU=some (.map Ν Τ)
 zero:(P.info? Τ).map (·.zero)=some (some z)
def Ef.c8{t Ν Τ:TypeId}{z:Value}{o:Option Operand}[ht:K0 P t Ν Τ z](kv:κ->Value)(Β:α->Value)(ho:o=none\/∃x k n,o=some x/\χ env x=some (.int k n)/\0<=n):Ef P L env (.makeMap t o) ty (λv Y=>∃b,v=.map (some b)/\Y = τ kv Β b []::L) :=
 Ef.val (λθ Α a w ea s r pos af g=>⟨_,w.alloc (.map #[] 0),_,by
  rcases ho with rfl|⟨x,k,n,rfl,K,hn⟩
  .simp[execOp,Instr.makeMap]
  .simp[execOp,Instr.makeMap,aH ea K,run_underlying ht.under,asInt,asIntOf],⟨_,rfl,rfl⟩,Sat.c8 s.alloc bR bR bR bR bR⟩)
variable [DecidableEq κ]
def O.w6{t:TypeId}{x y:Operand}{b Ν Τ:Nat}{z a2:Value}{kv:κ->Value}{Β:α->Value}{m:List (κ×α)}{D8:LH}{k:κ}[ht:K0 P t Ν Τ z][hk:LQ P Ν kv][hp:KQ L b κ α kv Β m D8](K:χ env x=some (.map (some b)))(Z:χ env y=some a2)[a4:Nb kv a2 k](ok:Bool) :
  O P L env (.lookup t x y ok) ty (if ok then .tuple #[((m.lookup k).map Β).getD z,.bool (m.lookup k).isSome] else((m.lookup k).map Β).getD z) :=
 O.mk (λθ Α _ w ea s _ _ _ _=>by
  obtain rfl:=a4.eq;obtain⟨es,r,e1,e2,e3,e4,e5,s2⟩:=(s.perm (hp.perm.append_right Α)).Nu;have hb:=s2.IN;have hf:=nS (P:=P) (Ν:=Ν) k w e1;have I:(getObj b).run P w=.ok (.map es r) w:=by simp[getObj,Sem.run,hb]
  have h3:=ht.zero;rw[<-mV];cases hi:P.info? Τ with
  | none=>rw[hi] at h3;cases h3
  | some i =>
   rw[hi] at h3;simp at h3;cases hj:m.findIdx? (λp=>p.1 == k) with
   | none =>
    rw[hj] at hf;simp[execOp,aH ea K,aH ea Z,Instr.lookup,run_underlying ht.under,I,hk.check,hf,zeroValue,typeInfo,hi,h3]
   | some j =>
    have a3:=(List.findIdx?_eq_some_iff_getElem.1 hj).1;rw[hj] at hf;simp[List.getElem?_eq_getElem a3] at hf;simp[execOp,aH ea K,aH ea Z,Instr.lookup,run_underlying ht.under,I,hk.check,hf,List.getElem?_eq_getElem a3])
def O.j5{t:TypeId}{x y:Operand}{b Ν Τ:Nat}{z r:Value}{kv:κ->Value}{Β:α->Value}{m:List (κ×α)}{D8:LH}{k:κ}[ht:K0 P t Ν Τ z][hk:LQ P Ν kv][hp:KQ L b κ α kv Β m D8](K:χ env x=some (.map (some b)))(Z:χ env y=some r)[I:Nb kv r k] :
  O P L env (.lookup t x y false) ty (((m.lookup k).map Β).getD z):=by
 have:=O.w6 (P:=P) (L:=L) (ty:=ty) (t:=t) K Z false
 simpa using this
def O.a8{t:TypeId}{x y:Operand}{b Ν Τ:Nat}{z r:Value}{kv:κ->Value}{Β:α->Value}{m:List (κ×α)}{D8:LH}{k:κ}[ht:K0 P t Ν Τ z][hk:LQ P Ν kv][hp:KQ L b κ α kv Β m D8](K:χ env x=some (.map (some b)))(Z:χ env y=some r)[I:Nb kv r k] :
  O P L env (.lookup t x y true) ty (.tuple #[((m.lookup k).map Β).getD z,.bool (m.lookup k).isSome]):=by
 have:=O.w6 (P:=P) (L:=L) (ty:=ty) (t:=t) K Z true
 simpa using this
def Ef.f5{t:TypeId}{x y z' : Operand}{b Ν Τ:Nat}{z v a4:Value}{kv:κ->Value}{Β:α->Value}{m:List (κ×α)}{D8:LH}{k:κ}(e:α)[ht:K0 P t Ν Τ z][hk:LQ P Ν kv][hp:KQ L b κ α kv Β m D8](K:χ env x=some (.map (some b)))(Z:χ env y=some a4)(hz:χ env z' = some v)[b2:Nb kv a4 k](hv:v=Β e)
  : Ef P L env (.mapUpdate t x y z') ty (λ_ Y=>Y = τ kv Β b (fc m k e)::D8) :=
 Ef.skip (λθ Α a w ea s b5 pos af g=>by
  subst hv;obtain rfl:=b2.eq;obtain⟨es,r,e1,e2,e3,e4,e5,s2⟩:=(s.perm (hp.perm.append_right Α)).Nu;have hb:=s2.IN;have hf:=nS (P:=P) (Ν:=Ν) k w e1;have a2:(getObj b).run P w=.ok (.map es r) w:=by simp[getObj,Sem.run,hb]
  have b1:=gY (k:=k) (a:=e) e2;cases hj:m.findIdx? (λp=>p.1 == k) with
  | none =>
   rw[hj] at hf;simp only[Option.bind_none] at hf
   have b3:m.any (λp=>p.1 == k)=false:=by
    rw[List.findIdx?_eq_none_iff] at hj;simpa using hj
   refine⟨_,_,?_,rfl,Sat.c8 (s2.Nr (o':=.map (es.push { key:=kv k,val:=Β e,born:=r }) (r+1))) ?_ b1 ?_ ?_ ?_⟩
   .simp[execOp,aH ea K,aH ea Z,aH ea hz,Instr.mapUpdate,run_underlying ht.under,a2,hk.check,hf,gN hb]
   .simp[e1,fc,b3]
   .simp;omega
   .intro x K;rcases Array.mem_push.1 K with K|rfl
    .have:=e4 x K;omega
    .simp
   .simp only[Array.toList_push,aL,aF,aY];rw[fX];refine⟨e5,by simp,?_⟩;intro x K y Z;simp at Z;subst Z;obtain⟨q,hq,rfl⟩:=IY K;have:=e4 q (by simpa using hq)
    omega
  | some j =>
   have a5:m.any (λp=>p.1 == k)=true:=by
    obtain⟨a7,J,_⟩:=List.findIdx?_eq_some_iff_getElem.1 hj;exact List.any_eq_true.2 ⟨m[j],cG a7,J⟩
   have a9:=kb (a:=e) e2 hj;obtain⟨I,b0,_⟩:=List.findIdx?_eq_some_iff_getElem.1 hj;rw[hj] at hf;simp[List.getElem?_eq_getElem I] at hf
   have b6:es.size=m.length:=by
    have:=congrArg List.length e1
    simpa using this
   have a6:((es[j]?).map (·.key)).getD (kv k)=kv k:=by
    have h5:=congrArg (λl=>l[j]?) e1;simp only[List.getElem?_map,List.getElem?_eq_getElem I,Array.getElem?_toList] at h5;rw[Array.getElem?_eq_getElem B] at h5 ⊢;simp at h5 ⊢;rw[h5.1];simp at b0;rw[b0]
   have b4:(Instr.keyThatStays (((es[j]?).map (·.key)).getD (kv k)) (kv k)).run P w=.ok (kv k) w:=by
    rw[a6];simp[Instr.keyThatStays,hk.bits]
   refine⟨_,_,?_,rfl,Sat.c8 (s2.Nr (o':=.map (es.modify j λx=>{ x with key:=kv k,val:=Β e }) r)) ?_ b1 ?_ ?_ ?_⟩
   .simp[execOp,aH ea K,aH ea Z,aH ea hz,Instr.mapUpdate,run_underlying ht.under,a2,hk.check,hf,b4,gN hb]
   .simp only[fc,a5,if_true,a9];rw[Array.toList_modify];apply fY;intro i;have h5:=congrArg (λl=>l[i]?) e1;simp only[List.getElem?_map] at h5;simp only[List.getElem?_map,List.getElem?_modify,List.getElem?_set];by_cases a3:j=i
    .subst a3;have a7:j<es.toList.length:=by simp;omega
     simp[I,List.getElem?_eq_getElem a7]
    .simp only[a3,if_false];cases hq:es.toList[i]? with
     | none=>rw[hq] at h5;simpa using h5
     | some q=>rw[hq] at h5;simpa using h5
   .simpa using e3
   .intro x K;obtain⟨i,hi,rfl⟩:=Array.mem_iff_getElem.1 K;rw[Array.getElem_modify];have h6:es[i]'(by simpa using hi)∈es:=Array.getElem_mem _;split
    .exact e4 (es[i]'(by simpa using hi)) h6
    .exact e4 _ h6
   .have:(es.modify j λx=>{ x with key:=kv k,val:=Β e }).toList.map (·.born)=es.toList.map (·.born):=by
     rw[Array.toList_modify];apply fY;intro i;simp only[List.getElem?_map,List.getElem?_modify];by_cases a3:j=i
     .subst a3;cases es.toList[j]?<;>simp
     .simp[a3]
    rw[this];exact e5)
def Ef.m5{t kt:TypeId}{x y:Operand}{b Ν Τ:Nat}{z a2:Value}{kv:κ->Value}{Β:α->Value}{m:List (κ×α)}{D8:LH}{k:κ}[ht:K0 P t Ν Τ z][hk:LQ P Ν kv][hp:KQ L b κ α kv Β m D8](K:χ env x=some (.map (some b)))(Z:χ env y=some a2)[a9:Nb kv a2 k]
  : Ef P L env (.call { callee:=.builtin .delete,args:=#[x,y],argTypes:=#[t,kt] }) ty (λ_ Y=>Y = τ kv Β b (GO m k)::D8) :=
 Ef.val (λθ Α a w ea s b0 pos af g=>by
  obtain rfl:=a9.eq;obtain⟨es,r,e1,e2,e3,e4,e5,s2⟩:=(s.perm (hp.perm.append_right Α)).Nu;have hb:=s2.IN;have hf:=nS (P:=P) (Ν:=Ν) k w e1;have I:(getObj b).run P w=.ok (.map es r) w:=by simp[getObj,Sem.run,hb]
  have a7:((GO m k).map (·.1)).Nodup:=e2.sublist ((List.filter_sublist).map _)
  have b2:es.size=m.length:=by
   have:=congrArg List.length e1
   simpa using this
  cases hj:m.findIdx? (λp=>p.1 == k) with
  | none =>
   rw[hj] at hf;simp only[Option.bind_none] at hf;have a4:=List.findIdx?_eq_none_iff.1 hj;have he:GO m k=m:=List.filter_eq_self.2 λp hp=>by simp[a4 p hp]
   refine⟨.tuple #[],_,_,?_,rfl,Sat.c8 (s2.Nr (o':=.map es r)) (by rw[he];exact e1) a7 e3 e4 e5⟩;simp[execOp,resolve,invoke,builtin,aH ea K,aH ea Z,Builtin.delete_,run_underlying ht.under,I,hk.check,hf,gN hb]
  | some j =>
   have a5:=wq e2 hj;obtain⟨a6,b1,_⟩:=List.findIdx?_eq_some_iff_getElem.1 hj;rw[hj] at hf;simp[List.getElem?_eq_getElem a6] at hf
   have a3:(es.eraseIdxIfInBounds j).toList=es.toList.eraseIdx j:=by
    simp[Array.eraseIdxIfInBounds,show j<es.size by omega]
   refine⟨.tuple #[],_,_,?_,rfl,Sat.c8 (s2.Nr (o':=.map (es.eraseIdxIfInBounds j) r)) ?_ a7 ?_ ?_ ?_⟩
   .simp[execOp,resolve,invoke,builtin,aH ea K,aH ea Z,Builtin.delete_,run_underlying ht.under,I,hk.check,hf,gN hb]
   .rw[a3,a5,iT,iT,e1]
   .have h7:(es.eraseIdxIfInBounds j).size=(es.toList.eraseIdx j).length:=by rw[<-a3,dF]
    have h8:(es.toList.eraseIdx j).length<=es.toList.length:=List.length_eraseIdx_le es.toList j;have h9:es.toList.length=es.size:=dF;omega
   .intro x K;have:x∈es.toList.eraseIdx j:=by rw[<-a3];exact Array.mem_toList_iff.2 K
    exact e4 x (by simpa using List.mem_of_mem_eraseIdx this)
   .rw[a3,iT];exact e5.sublist (List.eraseIdx_sublist _ _))
end ops
section ranges
variable {P:Program}{L:LH}{env:Env}{ty:TypeId}{κ α:Type}{kv:κ->Value}{Β:α->Value}
def Sat.QS{θ:Th}{b Θ:Nat}{m done:List (κ×α)}{L:LH}{w:World}(s:Sat θ (ft kv Β b m Θ done::L) w) :
  ∃x:Array MapEntry×Nat×Array Nat×List Nat,Qo kv Β m done x/\Sat θ (h1 b (.map x.1 x.2.1)::h1 Θ (.mapIter (some b) x.2.1 x.2.2.1 x.2.1)::L) w:=by
 obtain⟨x,s⟩:=s.NK;have s2:=s.KY;simp only[aj,ak] at s2;exact⟨x,s2.Nq,s2.tail⟩
def Sat.g8{θ:Th}{b Θ:Nat}{m done:List (κ×α)}{L:LH}{w:World}(x:Array MapEntry×Nat×Array Nat×List Nat)(K:Qo kv Β m done x)(s:Sat θ (h1 b (.map x.1 x.2.1)::h1 Θ (.mapIter (some b) x.2.1 x.2.2.1 x.2.1)::L) w) :
  Sat θ (ft kv Β b m Θ done::L) w:=Sat.c9 x (Sat.a8 (Μ:=[dp (Qo kv Β m done x),h1 b (.map x.1 x.2.1),h1 Θ (.mapIter (some b) x.2.1 x.2.2.1 x.2.1)]) (s.Ox K))
def Ef.j6{t Ν Τ:TypeId}{z:Value}{x:Operand}{b:Nat}{m:List (κ×α)}{D8:LH}[ht:K0 P t Ν Τ z][hp:KQ L b κ α kv Β m D8](K:χ env x=some (.map (some b))) :
  Ef P L env (.range t x) ty (λv Y=>∃Θ,v=al Θ/\Y = ft kv Β b m Θ []::D8) :=
 Ef.val (λθ Α a w ea s a2 pos af g=>by
  obtain⟨es,r,e1,e2,e3,e4,e5,s2⟩:=(s.perm (hp.perm.append_right Α)).Nu;have hb:=s2.IN;have I:(getObj b).run P w=.ok (.map es r) w:=by simp[getObj,Sem.run,hb]
  refine⟨_,w.alloc (.mapIter (some b) r #[] r),_,?_,⟨w.heap.size,rfl,rfl⟩,?_⟩
  .simp[execOp,Instr.range,aH ea K,run_underlying ht.under,I]
  .refine Sat.g8 (es,r,#[],[]) ⟨e1,e2,e3,e4,e5,by simp,by simp,by simp,by simp⟩ ?_;exact(Sat.alloc s2).perm (List.Perm.swap _ _ _))
def tP{n:Nat}{js:List Nat}(J:js.Nodup)(U:∀j∈js,j<n)(h3:∀j,j<n->j∈js):js.Perm (List.range n) :=
 (List.perm_ext_iff_of_nodup J List.nodup_range).2 λj=>⟨λh=>List.mem_range.2 (U j h),λh=>h3 j (List.mem_range.1 h)⟩
def rk{β:Type}(m:List β):(List.range m.length).filterMap (λj=>m[j]?)=m:=by
 induction m with
 | nil=>rfl
 | cons x m ih =>
  rw[aO,List.range_succ_eq_map];simp only[List.filterMap_cons,List.getElem?_cons_zero,List.filterMap_map,Function.comp_def,List.getElem?_cons_succ,Nat.succ_eq_add_one];rw[ih]
def oc{β:Type}{m:List β}:∀{js:List Nat},(∀j∈js,j<m.length)->(js.filterMap (λj=>m[j]?)).length=js.length
 | [],_=>rfl
 | j::js,h=>by
  rw[List.filterMap_cons,List.getElem?_eq_getElem (h j (az ..))];simp only[aO,oc λi hi=>h i (aB _ hi)]
def tc:∀{n:Nat} {js:List Nat},js.Nodup->(∀j∈js,j<n)->js.length<=n
 | 0,js,_,U=>by
  cases js with
  | nil=>simp
  | cons j js=>exact iW (U j (az ..)) B
 | n+1,js,J,U=>by
  have ih:=tc (n:=n) (js:=js.erase n) (J.erase n) (λj hj=>by
   have h3:=(List.Nodup.mem_erase_iff J).1 hj;have:=U j h3.2
   omega)
  have:=List.length_erase (a:=n) (l:=js)
  split at this<;>omega
def Ef.j8{it:Operand}{b Θ:Nat}{m done:List (κ×α)}{D8:LH}[hp:PT L Θ κ α kv Β b m done D8](K:χ env it=some (al Θ)) :
  Ef P L env (.next it false) ty (λv Y=>(v=.tuple #[.bool false]/\Y = ft kv Β b m Θ done::D8/\done.Perm m)\/(∃p,v=.tuple #[.bool true,kv p.1,Β p.2]/\Y = ft kv Β b m Θ (done++[p])::D8/\p∈m/\p∉done/\done.length<m.length)) :=
 Ef.val (λθ Α a w ea s c0 pos af g=>by
  obtain⟨⟨es,r,I,js⟩,⟨e1,e2,e3,e4,e5,j1,j2,j3,j4⟩,s2⟩:=(s.perm (hp.perm.append_right Α)).QS;dsimp only at e1 e3 e4 e5 j1 j2 j3 j4 s2;have hb:=s2.IN;have hr:=(s2.perm (List.Perm.swap _ _ _)).IN
  have c2:es.size=m.length:=by
   have:=congrArg List.length e1
   simpa using this
  have a4:∀j,j∈js->∃e,es[j]? = some e/\e.born∈I:=by
   intro j hj;have c1:=j2 j hj;refine⟨es[j]'(by omega),Array.getElem?_eq_getElem B,?_⟩
   have:(es[j]'(by omega)).born∈I.toList:=by
    rw[j4];exact List.mem_filterMap.2 ⟨j,hj,by simp[Array.getElem?_eq_getElem (B:j<es.size)]⟩
   simpa using this
  have a5:∀x∈I,∃j∈js,∃e,es[j]? = some e/\e.born=x:=by
   intro x K;have:x∈I.toList:=by simpa using K
   rw[j4] at this;obtain⟨j,hj,b5⟩:=List.mem_filterMap.1 this;obtain⟨e,he,a6⟩:=Option.map_eq_some_iff.1 b5;exact⟨j,hj,e,he,a6⟩
  have b0:∀(i j:Nat) (hi:i<es.size) (hj:j<es.size),es[i].born=es[j].born->i=j:=by
   intro i j hi hj he;have J:(es.toList.map (·.born))[i]'(by simpa using hi)=(es.toList.map (·.born))[j]'(by simpa using hj):=by simpa using he
   exact(List.getElem_inj e5).1 J
  have b7:∀(j:Nat) (hj:j<es.size),es[j].key=kv (m[j]'(by omega)).1/\es[j].val=Β (m[j]'(by omega)).2:=by
   intro j hj;have h5:=congrArg (λl=>l[j]?) e1;simp only[List.getElem?_map,Array.getElem?_toList,Array.getElem?_eq_getElem hj,List.getElem?_eq_getElem (B:j<m.length)] at h5;simpa using h5
  rcases run_next_at (P:=P) w ty Θ b r r I es r hr hb (λx K=>e4 x (by simpa using K)) (au _) with⟨h0,a3⟩|⟨e,he,w1,b9,a3⟩
  .refine⟨_,w,_,?_,.inl ⟨rfl,rfl,?_⟩,Sat.g8 (es,r,I,js) ⟨e1,e2,e3,e4,e5,j1,j2,j3,j4⟩ s2⟩
   .simp[execOp,aH ea K,a3]
   .have a7:∀j,j<m.length->j∈js:=by
     intro j hj
     have hl:es[j]'(by omega)∉leftOf es I:=by
      have:leftOf es I=#[]:=Array.eq_empty_of_size_eq_zero h0;rw[this];simp
     simp only[leftOf,Array.mem_filter,not_and] at hl;have J:=hl (Array.getElem_mem _);have U:(es[j]'(by omega)).born∈I:=by simpa using J
     obtain⟨i,hi,e,he,a6⟩:=a5 _ U;have a2:=j2 i hi;rw[Array.getElem?_eq_getElem B] at he;simp only[Option.some.injEq] at he;rw[<-he] at a6;rw[<-b0 i j B B a6];exact hi
    rw[j3];exact((tP j1 j2 a7).filterMap _).trans (by rw[rk])
  .have b3 : e∈es/\e.born∉I:=by
    have:e∈leftOf es I:=by simpa using he
    simp only[leftOf,Array.mem_filter] at this;exact⟨this.1,by simpa using this.2⟩
   obtain⟨j,hj,rfl⟩:=Array.mem_iff_getElem.1 b3.1
   have b1:j∉js:=by
    intro b6;obtain⟨e,J,U⟩:=a4 j b6;rw[Array.getElem?_eq_getElem hj] at J;simp only[Option.some.injEq] at J;rw[<-J] at U;exact b3.2 U
   have b4:j<m.length:=B
   have b8:m[j]∉done:=by
    rw[j3];intro b2;obtain⟨i,hi,a9⟩:=List.mem_filterMap.1 b2;have a2:=j2 i hi;rw[List.getElem?_eq_getElem a2] at a9;simp only[Option.some.injEq] at a9;have J:(m.map (·.1))[i]'(by simpa using a2)=(m.map (·.1))[j]'(by simpa using b4):=by simp[a9]
    have:=(List.getElem_inj e2).1 J
    exact b1 (this▸hi)
   have hk:=b7 j hj;refine⟨_,ChangeMaps.setBlock w1 Θ (.mapIter (some b) r (I.push es[j].born) r),_,?_,.inr ⟨m[j],rfl,rfl,cG _,b8,?_⟩,Sat.g8 (es,r,I.push es[j].born,js++[j]) ⟨e1,e2,e3,e4,e5,?_,?_,?_,?_⟩ ?_⟩
   .rw[<-hk.1,<-hk.2];simp[execOp,aH ea K,a3]
   .rw[j3,oc j2]
    have:=tc (n:=m.length) (js:=js++[j]) (by
     rw[fX];exact⟨j1,by simp,by intro x K y Z;simp at Z;subst Z;rintro rfl;exact b1 K⟩) (by
     intro i hi;rcases It hi with h|h
     .exact j2 i h
     .simp at h;omega)
    simp at this;omega
   .show(js++[j]).Nodup;rw[fX];exact⟨j1,by simp,by intro x K y Z;simp at Z;subst Z;rintro rfl;exact b1 K⟩
   .intro i hi;rcases It hi with h|h
    .exact j2 i h
    .simp at h;omega
   .simp[j3,List.filterMap_append,List.getElem?_eq_getElem b4]
   .simp[j4,List.filterMap_append,Array.getElem?_eq_getElem hj]
   ··have s3:Sat θ (h1 Θ (.mapIter (some b) r I r)::h1 b (.map es r)::(D8++Α)) w1:=by
      rcases b9 with rfl|rfl
      .exact s2.perm (List.Perm.swap _ _ _)
      .exact(Sat.drew s2).perm (List.Perm.swap _ _ _)
     exact(Sat.Nr (o':=.mapIter (some b) r (I.push es[j].born) r) s3).perm (List.Perm.swap _ _ _))
def O.j6{it:Operand}{b Θ:Nat}{m done I : List (κ×α)}{p:κ×α}{D8:LH}[hp:PT L Θ κ α kv Β b m I D8](hd:I = done++[p])(K:χ env it=some (al Θ)) :
  O P L env (.entry it) ty (.tuple #[kv p.1,Β p.2]) :=
 O.mk (λθ Α _ w ea s _ _ _ _=>by
  subst hd;obtain⟨⟨es,r,a2,js⟩,⟨e1,e2,e3,e4,e5,j1,j2,j3,j4⟩,s2⟩:=(s.perm (hp.perm.append_right Α)).QS;dsimp only at e1 e3 e4 e5 j1 j2 j3 j4 s2;have hb:=s2.IN;have hr:=(s2.perm (List.Perm.swap _ _ _)).IN
  have a9:es.size=m.length:=by
   have:=congrArg List.length e1
   simpa using this
  rcases List.eq_nil_or_concat js with rfl|⟨a7,j,rfl⟩
  .simp at j3
  .have a3:j<m.length:=j2 j bR;have hj:j<es.size:=B;rw[List.concat_eq_append] at j3 j4;simp[List.filterMap_append,List.getElem?_eq_getElem a3] at j3;simp[List.filterMap_append,Array.getElem?_eq_getElem hj] at j4;have a5:p=m[j]:=j3.2
   have a4:es[j].key=kv p.1/\es[j].val=Β p.2:=by
    have h5:=congrArg (λl=>l[j]?) e1;simp only[List.getElem?_map,Array.getElem?_toList,Array.getElem?_eq_getElem hj,List.getElem?_eq_getElem a3] at h5;rw[a5];simpa using h5
   have a6:a2=(a7.filterMap (λj=>(es[j]?).map (·.born))).toArray.push es[j].born:=by
    apply Array.ext';simp[j4]
   rw[a6] at hr;have:=run_entry_at (P:=P) w Θ b r _ es r es[j] hr hb bR e5
   rw[a4.1,a4.2] at this;simp[execOp,aH ea K,this])
def A.j9{b Θ:Nat}{m done:List (κ×α)}:A (ft kv Β b m Θ done::L) (τ kv Β b m::L):=λθ Α w s=>by
 obtain⟨⟨es,r,I,js⟩,⟨e1,e2,e3,e4,e5,_⟩,s2⟩:=Sat.QS s;exact Sat.c8 ((s2.perm (List.Perm.swap _ _ _)).tail) e1 e2 e3 e4 e5
