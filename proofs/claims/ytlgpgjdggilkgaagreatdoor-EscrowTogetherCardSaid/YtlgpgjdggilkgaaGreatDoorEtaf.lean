/- Maps with keys of any type that is compared by value, ranges over maps, structs of integers compared. Holds for any program whose type tables are as the classes say. -/
import Derived.Test.YtlgpgjdggilkgaaGreatDoorEtae
import Derived.Maps.RangeRun
import Derived.Laws.StructEq
set_option linter.all false
namespace Go.V
class RR (P:Program) (ac:Nat) (n:outParam Nat):Prop where
 under:P.underlying ac=some (.struct (P.fieldsOf ac))
 free:P.stoodInHeld ac=false
 guard:P.eqGuardType P.depth ac=false
 Vg : (P.fieldsOf ac).toList.map (λf => (f.name == "_", f.offset, P.underlying f.type)) = (List.range n).map λi => (false, i, some (.int .i64))
 one:∀f∈(P.fieldsOf ac).toList,∀w,(isAgg f.type).run P w=.ok false w
theorem RR.of{P:Program}{ac n:Nat}(K:P.underlying ac=some (.struct (P.fieldsOf ac)))(T:P.stoodInHeld ac=false)(h3:P.eqGuardType P.depth ac=false)
  (h4 : (P.fieldsOf ac).toList.map (λf => (f.name == "_", f.offset, P.underlying f.type)) = (List.range n).map λi => (false, i, some (.int .i64)))
  (_h5:(P.fieldsOf ac).toList.all (λf=>(P.info? f.type).isSome)=true):RR P ac n :=
 ⟨K,T,h3,h4,λf hf w=>by
  have h6 : (f.name == "_", f.offset, P.underlying f.type) ∈ (List.range n).map λi => (false, i, some (TypeDesc.int .i64)) := by rw [<- h4]; exact PB hf
  obtain⟨i,_,hi⟩:=H9 h6;simp only[Prod.mk.injEq] at hi;have hu:=hi.2.2.symm;simp[isAgg,run_underlying hu]⟩
def iE{P:Program}{ac:Nat}{cs:Array Value}{i:Nat}{v:Value}{w:World}(K:∀w,(isAgg ac).run P w=.ok false w)(h:cs[i]? = some v):(part ac cs i).run P w=.ok v w:=by
 simp[part,K w,h]
def YR {P : Program} {w : World} {Μ : Nat} {I ys : List Int} : ∀ (fs : List Field) (i : Nat), fs.map (λf => (f.name == "_", f.offset, P.underlying f.type)) = (List.range' i fs.length).map (λi => (false, i, some (TypeDesc.int .i64))) ->
  (∀f∈fs,∀w,(isAgg f.type).run P w=.ok false w)->i+fs.length=I.length->I.length=ys.length ->
  (Op.eqFields (Μ+1) (I.map (Value.int .i64)).toArray (ys.map (Value.int .i64)).toArray fs).run P w=.ok (decide (I.drop i=ys.drop i)) w:=by
 intro fs;induction fs with
 | nil =>
  intro i _ _ T h3;simp only[bu] at T;rw[bU D,bU D];simp[Op.eqFields]
 | cons f fs ih =>
  intro i K ho T h3;simp only [aK] at T;simp only [aq,aK,List.range'_succ,List.cons.injEq,Prod.mk.injEq] at K;obtain ⟨⟨hn,hoff,hu⟩,hr⟩:=K;have hn' : f.name ≠ "_" := by simpa using hn
  have VO:i<I.length:=D;have Xo:i<ys.length:=D;have hf:=ho f (aA ..);have e1:(I.map (Value.int .i64)).toArray[i]? = some (J I[i]):=by simp[VO]
  have e2:(ys.map (Value.int .i64)).toArray[i]? = some (J ys[i]):=by simp[Xo]
  have Wm:=ih (i+1) hr (λg hg=>ho g (az _ hg)) D h3;simp only[Op.eqFields,Χ hn',hoff,Sem.run_bind,iE hf e1,iE hf e2,Result.andThen_ok,run_equalIn_int w Μ f.type .i64 .i64 I[i] ys[i] hu];rw[bY VO,bY Xo];by_cases he:I[i]=ys[i]
  .simp only[he,beq_self_eq_true,Bool.not_true,fS,if_false,Wm,List.cons.injEq,true_and]
  .have hb:(I[i] == ys[i])=false:=by simpa using he
   simp only[hb,Bool.not_false,if_true,Sem.run_pure,List.cons.injEq,he,false_and,decide_false]
def nl{P:Program}{ac n:Nat}[h:RR P ac n]{w:World}{Μ:Nat}{I ys:List Int}(O:I.length=n)(Y:ys.length=n) :
  (Op.equalIn (Μ+2) ac (.agg (I.map (Value.int .i64)).toArray) (.agg (ys.map (Value.int .i64)).toArray)).run P w=.ok (decide (I=ys)) w:=by
 rw[run_equalIn_struct w (Μ+1) ac _ _ h.under h.free]
 have U:(P.fieldsOf ac).toList.length=n:=by
  have:=congrArg List.length h.Vg
  simpa using this
 have:=YR (P:=P) (w:=w) (Μ:=Μ) (I:=I) (ys:=ys) (P.fieldsOf ac).toList 0 (by rw[U,<-List.range_eq_range'];exact h.Vg) h.one D D
 simpa using this
class Ub (cs:τ) (I:outParam (List Int)):Prop where
 eq:cs=I.map (Value.int .i64)
instance:Ub [] []:=⟨rfl⟩
instance (a:Int)(cs:τ)(I:List Int)[h:Ub cs I]:Ub (J a::cs) (a::I):=⟨by rw[h.eq];rfl⟩
section
variable {P:Program}{L:Η}{env:Env}{ty:TypeId}
def Ev.w9{t yt:TypeId}{x y:Operand}{n:Nat}[h:RR P t n]{cs ds:τ}(O:cq env x=some (.agg cs.toArray))(Y:cq env y=some (.agg ds.toArray)){I ys:List Int}[hc:Ub cs I][hd:Ub ds ys](U:I.length=n)(B : ys.length=n) :
  Ev P L env (.binOp .eql t x y yt) ty (.bool (dB (I=ys))) :=
 Ev.mk (λθ R _ w ea s _ _ _ _=>by
  rw[hc.eq] at O;rw[hd.eq] at Y;have K:=nl (P:=P) (ac:=t) (w:=w) (Μ:=9998) U B;simp[execOp,aJ ea O,aJ ea Y,run_eqGuard_agg w .eql t x y _ _ h.guard,run_eql_struct,K,dH])
def Ev.w6{t yt:TypeId}{x y:Operand}{n:Nat}[h:RR P t n]{cs ds:τ}(O:cq env x=some (.agg cs.toArray))(Y:cq env y=some (.agg ds.toArray)){I ys:List Int}[hc:Ub cs I][hd:Ub ds ys](U:I.length=n)(B : ys.length=n) :
  Ev P L env (.binOp .neq t x y yt) ty (.bool (dB (¬I=ys))) :=
 Ev.mk (λθ R _ w ea s _ _ _ _=>by
  rw[hc.eq] at O;rw[hd.eq] at Y;have K:=nl (P:=P) (ac:=t) (w:=w) (Μ:=9998) U B;simp[execOp,aJ ea O,aJ ea Y,run_eqGuard_agg w .neq t x y _ _ h.guard,run_neq_struct,K,dH])
end
class QZ (P:Program) (Ξ:TypeId) {κ:Type} [DecidableEq κ] (kv:κ->Value):Prop where
 inj:∀a b,kv a=kv b->a=b
 check:∀e k w,(Instr.checkKey e 10000 Ξ (kv k)).run P w=.ok () w
 bits:∀k,Instr.sameBits 10000 (kv k) (kv k)=true
 find:∀(k:κ) (es:List MapEntry) (ks:List κ) w,es.map (·.key)=ks.map kv->(Instr.findKey Ξ (kv k) es).run P w=.ok ((ks.findIdx? (λq=>q == k)).bind λj=>(es[j]?).map λe=>(j,e.val)) w
def oD{κ:Type}[DecidableEq κ]{kv:κ->Value}{Μ:TypeDesc}(hs:∀a b:κ,Instr.sameNow Μ (kv a) (kv b)=some (decide (a=b)))(k:κ):∀(es:List MapEntry) (ks:List κ) (i:Nat),es.map (·.key)=ks.map kv ->
  Instr.findNow Μ (kv k) es i=some ((ks.findIdx? (λq=>q == k)).bind λj=>(es[j]?).map λe=>(i+j,e.val))
 | [],[],i,_=>by simp[Instr.findNow]
 | [],_::_,_,h=>by simp at h
 | _::_,[],_,h=>by simp at h
 | e::es,p::ks,i,h=>by
  simp only[aq,List.cons.injEq] at h;obtain⟨K,h3⟩:=h;have ih:=oD hs k es ks (i+1) h3;simp only[Instr.findNow,K,hs];by_cases hk:k=p
  .subst hk;simp[List.findIdx?_cons]
  .have B : (p == k)=false:=by simpa using λh=>hk h.symm
   simp only[hk,decide_false,ih,List.findIdx?_cons,B];cases hf:List.findIdx? (λq=>q == k) ks<;>simp;rename_i j;rw[show i+1+j=i+(j+1) by omega]
def lH{P:Program}{Ξ:TypeId}{κ:Type}[DecidableEq κ]{kv:κ->Value}{w:World}(hs:∀a b:κ,(Op.equal Ξ (kv a) (kv b)).run P w=.ok (decide (a=b)) w)(k:κ):∀(es:List MapEntry) (ks:List κ) (i:Nat),es.map (·.key)=ks.map kv ->
  (Instr.findAsking Ξ (kv k) es i).run P w=.ok ((ks.findIdx? (λq=>q == k)).bind λj=>(es[j]?).map λe=>(i+j,e.val)) w
 | [],[],i,_=>by simp[Instr.findAsking]
 | [],_::_,_,h=>by simp at h
 | _::_,[],_,h=>by simp at h
 | e::es,p::ks,i,h=>by
  simp only[aq,List.cons.injEq] at h;obtain⟨K,h3⟩:=h;have ih:=lH hs k es ks (i+1) h3;simp only[Instr.findAsking,K,Sem.run_bind,hs,Result.andThen_ok];by_cases hk:k=p
  .subst hk;simp[List.findIdx?_cons]
  .have B : (p == k)=false:=by simpa using λh=>hk h.symm
   simp only[hk,decide_false,fS,if_false,ih,List.findIdx?_cons,B];cases hf:List.findIdx? (λq=>q == k) ks<;>simp;rename_i j;rw[show i+1+j=i+(j+1) by omega]
def gm(k:Int):Value:=J k
def Q0(s:ByteArray):Value:=.string s
def D5(p:Int×Int):Value:=.agg ([p.1,p.2].map (Value.int .i64)).toArray
theorem Y0{P:Program}{Ξ:TypeId}[h:QX P Ξ .i64]:QZ P Ξ gm where
 inj a b h:=by simpa [gm] using h
 check e k w:=by
  have:∀m,(Instr.checkKey e (m+1) Ξ (gm k)).run P w=.ok () w:=λm=>by simp[Instr.checkKey,gm,run_underlying h.under]
  exact this 9999
 bits k:=by
  show Instr.sameBits (9999+1) (J k) (J k)=true;simp[Instr.sameBits]
 find k es ks w he:=by
  have:=oD (kv:=gm) (Μ:=.int .i64) (λa b=>by simp[gm,Instr.sameNow];rfl) k es ks 0 he
  simp only[Instr.findKey,Sem.run_bind,run_underlying h.under,Result.andThen_ok,this,Sem.run_pure,dw]
theorem Y1{P:Program}{Ξ:TypeId}[h:UF P Ξ]:QZ P Ξ Q0 where
 inj a b h:=by simpa [Q0] using h
 check e k w:=by
  have:∀m,(Instr.checkKey e (m+1) Ξ (Q0 k)).run P w=.ok () w:=λm=>by simp[Instr.checkKey,Q0,run_underlying h.under]
  exact this 9999
 bits k:=by
  show Instr.sameBits (9999+1) (.string k) (.string k)=true;simp only[Instr.sameBits,beq_toListBytes,beq_self_eq_true]
 find k es ks w he:=by
  have:=oD (kv:=Q0) (Μ:=.string) (λa b=>by simp only[Q0,Instr.sameNow,beq_toListBytes,Al]) k es ks 0 he
  simp only[Instr.findKey,Sem.run_bind,run_underlying h.under,Result.andThen_ok,this,Sem.run_pure,dw]
def BZ{P:Program}{Ξ n:Nat}[h:RR P Ξ n]{e:Bool}{I:List Int}{w:World}(O:I.length=n):(Instr.checkKey e 10000 Ξ (.agg (I.map (Value.int .i64)).toArray)).run P w=.ok () w:=by
 have U:(P.fieldsOf Ξ).toList.length=n:=by
  have:=congrArg List.length h.Vg
  simpa using this
 have main:∀k:Nat,(∀ac n,P.underlying ac=some (TypeDesc.int .i64)->(Instr.checkKey e k ac (J n)).run P w=.ok () w)->(Instr.checkKey e (k+1) Ξ (.agg (I.map (Value.int .i64)).toArray)).run P w=.ok () w:=by
  intro k hk
  have aux : ∀ (fs : List Field) (i : Nat), fs.map (λf => (f.name == "_", f.offset, P.underlying f.type)) = (List.range' i fs.length).map (λi => (false, i, some (TypeDesc.int .i64))) ->
    (∀f∈fs,∀w,(isAgg f.type).run P w=.ok false w)->i+fs.length=I.length ->
    (forIn fs PUnit.unit λf r=>(do
     if f.name ≠ "_" then
      Instr.checkKey e k f.type (<- part f.type (I.map (Value.int .i64)).toArray f.offset)
      pure (ForInStep.yield PUnit.unit)
     else pure (ForInStep.yield PUnit.unit):Sem (ForInStep PUnit))).run P w=.ok PUnit.unit w:=by
   intro fs;induction fs with
   | nil=>intro i _ _ _;simp
   | cons f fs ih =>
    intro i K ho T;simp only [aK] at T;simp only [aq,aK,List.range'_succ,List.cons.injEq,Prod.mk.injEq] at K;obtain ⟨⟨hn,hoff,hu⟩,hr⟩:=K;have hn' : f.name ≠ "_" := by simpa using hn
    have VO:i<I.length:=D;have hf:=ho f (aA ..);have e1:(I.map (Value.int .i64)).toArray[i]? = some (J I[i]):=by simp[VO]
    have Wm:=ih (i+1) hr (λg hg=>ho g (az _ hg)) D;rw[List.forIn_cons];simp only[Χ hn',hoff,Sem.run_bind,iE hf e1,Result.andThen_ok,hk _ _ hu,Sem.run_pure];exact Wm
  have:=aux (P.fieldsOf Ξ).toList 0 (by rw[U,<-List.range_eq_range'];exact h.Vg) h.one D
  simp only[Instr.checkKey,Sem.run_bind,run_underlying h.under,Result.andThen_ok];rw[<-Array.forIn_toList];simp at this ⊢;rw[this];rfl
 exact main 9999 λac n hT=>by
  have:∀m,(Instr.checkKey e (m+1) ac (J n)).run P w=.ok () w:=λm=>by simp[Instr.checkKey,run_underlying hT]
  exact this 9998
theorem Xp{P:Program}{Ξ:TypeId}[h:RR P Ξ 2]:QZ P Ξ D5 where
 inj a b h:=by
  simp[D5] at h;exact Prod.ext h.1 h.2
 check e k w:=BZ (I:=[k.1,k.2]) rfl
 bits k:=by
  have:∀n,Instr.sameBits (n+1) (D5 k) (D5 k)=true:=λn=>by simp[Instr.sameBits,D5]
  exact this 9999
 find k es ks w he:=by
  have hq:∀a b:Int×Int,(Op.equal Ξ (D5 a) (D5 b)).run P w=.ok (decide (a=b)) w:=by
   intro a b;have:=nl (P:=P) (ac:=Ξ) (w:=w) (Μ:=9998) (I:=[a.1,a.2]) (ys:=[b.1,b.2]) rfl rfl
   have e:decide ([a.1,a.2]=[b.1,b.2])=decide (a=b):=by
    obtain⟨M,a2⟩:=a;obtain⟨b1,b2⟩:=b;simp
   rw[<-e];exact this
  have T:=lH (P:=P) (Ξ:=Ξ) (w:=w) hq k es ks 0 he;simp only[Instr.findKey,Sem.run_bind,run_underlying h.under,Result.andThen_ok];cases es with
  | nil =>
   cases ks with
   | nil=>simp[Instr.findNow]
   | cons _ _=>simp at he
  | cons x es =>
   cases ks with
   | nil=>simp at he
   | cons q ks =>
    have hk:x.key=D5 q:=by simp at he;exact he.1
    have hn:Instr.findNow (.struct (P.fieldsOf Ξ)) (D5 k) (x::es) 0=none:=by simp[Instr.findNow,Instr.sameNow]
    rw[hn];simp only[dw] at T;exact T
class Sy {κ:Type} (kv:κ->Value) (v:Value) (k:outParam κ):Prop where
 eq:v=kv k
instance (n:Int):Sy gm (J n) n:=⟨rfl⟩
instance (s:ByteArray):Sy Q0 (.string s) s:=⟨rfl⟩
instance (a b:Int):Sy D5 (.agg #[J a,J b]) (a,b):=⟨rfl⟩
instance (n:Int):Sy gm (gm n) n:=⟨rfl⟩
def cS{κ α:Type}(kv:κ->Value)(Ε:α->Value)(b:Nat)(m:List (κ×α)):HP:=λ_ h =>
 ∃es B,h b=some (.map es B)/\es.toList.map (λe=>(e.key,e.val))=m.map (λp=>(kv p.1,Ε p.2))/\(m.map (·.1)).Nodup/\es.size<=B/\(∀e∈es,e.born<B)/\(es.toList.map (·.born)).Nodup
def VP{κ α:Type}(kv:κ->Value)(Ε:α->Value)(m done:List (κ×α))(x:Array MapEntry×Nat×Array Nat×List Nat):Prop :=
 x.1.toList.map (λe=>(e.key,e.val))=m.map (λp=>(kv p.1,Ε p.2))/\(m.map (·.1)).Nodup/\x.1.size<=x.2.1/\(∀e∈x.1,e.born<x.2.1)/\(x.1.toList.map (·.born)).Nodup /\
  x.2.2.2.Nodup/\(∀j∈x.2.2.2,j<m.length)/\done=x.2.2.2.filterMap (λj=>m[j]?)/\x.2.2.1.toList=x.2.2.2.filterMap (λj=>(x.1[j]?).map (·.born))
def fY{κ α:Type}(kv:κ->Value)(Ε:α->Value)(b:Nat)(m:List (κ×α))(r:Nat)(done:List (κ×α)):HP:=hex λx:Array MapEntry×Nat×Array Nat×List Nat =>
 cx [ee (VP kv Ε m done x),jC b (.map x.1 x.2.1),jC r (.mapIter (some b) x.2.1 x.2.2.1 x.2.1)]
class QD (L:Η) (b:Nat) (κ α:outParam Type) (kv:outParam (κ->Value)) (Ε:outParam (α->Value)) (m:outParam (List (κ×α))) (R:outParam (Η)):Prop where
 perm:L.Perm (cS kv Ε b m::R)
instance {κ α:Type}(L:Η)(b:Nat)(kv:κ->Value)(Ε:α->Value)(m:List (κ×α)):QD (cS kv Ε b m::L) b κ α kv Ε m L:=⟨List.Perm.refl _⟩
instance {κ α:Type}(Ο:HP)(L:Η)(b:Nat)(kv:κ->Value)(Ε:α->Value)(m:List (κ×α))(R:Η)[h:QD L b κ α kv Ε m R]:QD (Ο::L) b κ α kv Ε m (Ο::R):=⟨(h.perm.cons Ο).trans (List.Perm.swap _ _ _)⟩
class Vh (L:Η) (r:Nat) (κ α:outParam Type) (kv:outParam (κ->Value)) (Ε:outParam (α->Value)) (b:outParam Nat) (m done:outParam (List (κ×α))) (R:outParam (Η)):Prop where
 perm:L.Perm (fY kv Ε b m r done::R)
instance {κ α:Type}(L:Η)(b r:Nat)(kv:κ->Value)(Ε:α->Value)(m done:List (κ×α)):Vh (fY kv Ε b m r done::L) r κ α kv Ε b m done L:=⟨List.Perm.refl _⟩
instance {κ α:Type}(Ο:HP)(L:Η)(b r:Nat)(kv:κ->Value)(Ε:α->Value)(m done:List (κ×α))(R:Η)[h:Vh L r κ α kv Ε b m done R]:Vh (Ο::L) r κ α kv Ε b m done (Ο::R):=⟨(h.perm.cons Ο).trans (List.Perm.swap _ _ _)⟩
section mapsP
variable {κ α:Type}
def Sat.Tk{θ:Th}{kv:κ->Value}{Ε:α->Value}{b:Nat}{m:List (κ×α)}{L:Η}{w:World}(s:Sat θ (cS kv Ε b m::L) w) :
  ∃es B,es.toList.map (λe=>(e.key,e.val))=m.map (λp=>(kv p.1,Ε p.2))/\(m.map (·.1)).Nodup/\es.size<=B/\(∀e∈es,e.born<B)/\(es.toList.map (·.born)).Nodup/\Sat θ (jC b (.map es B)::L) w:=by
 obtain⟨ok,ι,h,a,b1,c,G6,E4,D4,d1,d2,d3,d4,⟨es,B,e1,e2,e3,e4,e5,e6⟩,d6⟩:=s;exact⟨es,B,e2,e3,e4,e5,e6,ok,ι,h,a,b1,c,G6,E4,D4,d1,d2,d3,d4,e1,d6⟩
def Sat.c8{θ:Th}{kv:κ->Value}{Ε:α->Value}{b:Nat}{m:List (κ×α)}{L:Η}{w:World}{es:Array MapEntry}{B:Nat}(s:Sat θ (jC b (.map es B)::L) w)
  (K:es.toList.map (λe=>(e.key,e.val))=m.map (λp=>(kv p.1,Ε p.2))) (T:(m.map (·.1)).Nodup) (h3:es.size<=B) (h4:∀e∈es,e.born<B) (h5:(es.toList.map (·.born)).Nodup):Sat θ (cS kv Ε b m::L) w:=by
 obtain⟨ok,ι,h,a,b1,c,G6,E4,D4,d1,d2,d3,d4,d5,d6⟩:=s;exact⟨ok,ι,h,a,b1,c,G6,E4,D4,d1,d2,d3,d4,⟨es,B,d5,K,T,h3,h4,h5⟩,d6⟩
def eO{kv:κ->Value}{Ε:α->Value}{b:Nat}{m:List (κ×α)}{L R:Η}[hp:QD L b κ α kv Ε m R]:∀θ R w,Sat θ (L++R) w->(m.map (·.1)).Nodup:=λθ R w s=>by
 obtain⟨es,B,e1,e2,_⟩:=(s.perm (hp.perm.append_right R)).Tk;exact e2
end mapsP
section maps
variable {κ α:Type}[DecidableEq κ]
def cZ(m:List (κ×α))(k:κ)(a:α):List (κ×α):=if m.any (λp=>p.1 == k) then m.map (λp=>if p.1=k then(k,a) else p) else m++[(k,a)]
def I1(m:List (κ×α))(k:κ):List (κ×α):=m.filter (λp=>!(p.1 == k))
def uM{m:List (κ×α)}{k:κ}:(m.map (·.1)).findIdx? (λq=>q == k)=m.findIdx? (λp=>p.1 == k):=by
 induction m with
 | nil=>rfl
 | cons p m ih=>simp only[aq,List.findIdx?_cons,ih]
def oU{m:List (κ×α)}{k:κ}:(m.findIdx? (λp=>p.1 == k)).bind (λj=>m[j]?.map (·.2))=m.lookup k:=by
 induction m with
 | nil=>simp
 | cons p m ih =>
  obtain⟨q,x⟩:=p;simp only[List.findIdx?_cons,cA];by_cases hk:k=q
  .subst hk;simp
  .have hb:(k == q)=false:=by simpa using hk
   have B : (q == k)=false:=by simpa using λh=>hk h.symm
   simp only[hb,B,<-ih];cases List.findIdx? (λp=>p.1 == k) m<;>simp
def pW{P:Program}{Ξ:TypeId}{kv:κ->Value}[hk:QZ P Ξ kv]{Ε:α->Value}{es:Array MapEntry}{m:List (κ×α)}(k:κ)(w:World)(he:es.toList.map (λe=>(e.key,e.val))=m.map (λp=>(kv p.1,Ε p.2))) :
  (Instr.findKey Ξ (kv k) es.toList).run P w=.ok ((m.findIdx? (λp=>p.1 == k)).bind λj=>(m[j]?).map λp=>(j,Ε p.2)) w:=by
 have K:es.toList.map (·.key)=(m.map (·.1)).map kv:=by
  have:=congrArg (List.map Prod.fst) he
  simpa [co,Function.comp_def] using this
 rw[hk.find k es.toList (m.map (·.1)) w K,uM];congr 1;cases m.findIdx? (λp=>p.1 == k) with
 | none=>rfl
 | some j =>
  simp only[Option.bind_some];have T:=congrArg (λl=>l[j]?) he;simp only[List.getElem?_map] at T;cases hq:es.toList[j]? with
  | none =>
   rw[hq] at T;cases hm:m[j]? with
   | none=>rfl
   | some p=>rw[hm] at T;simp at T
  | some q =>
   rw[hq] at T;cases hm:m[j]? with
   | none=>rw[hm] at T;simp at T
   | some p=>rw[hm] at T;simp at T;simp[T.2]
def iD{m:List (κ×α)}{k:κ}{a:α}(h:(m.map (·.1)).Nodup):((cZ m k a).map (·.1)).Nodup:=by
 unfold cZ;split
 .rw[co]
  have:(λp:κ×α=>(if p.1=k then(k,a) else p).1)=(·.1):=by
   funext p;split
   .rename_i h;exact h.symm
   .rfl
  show((m.map ((·.1) ∘ λp=>if p.1=k then(k,a) else p))).Nodup;rw[show((·.1) ∘ λp:κ×α=>if p.1=k then(k,a) else p)=(λp:κ×α=>(if p.1=k then(k,a) else p).1) from rfl,this];exact h
 .rename_i hn;rw[aQ,gI];refine⟨h,by simp,?_⟩;intro x O y Y;simp at Y;subst Y;rintro rfl;apply hn;obtain⟨p,hp,rfl⟩:=H9 O;exact List.any_eq_true.2 ⟨p,hp,by simp⟩
def lr{k:κ}{a:α}:∀{m:List (κ×α)} {j:Nat},(m.map (·.1)).Nodup->m.findIdx? (λp=>p.1 == k)=some j->m.map (λp=>if p.1=k then(k,a) else p)=m.set j (k,a)
 | [],j,_,h=>by simp at h
 | p::m,j,hn,h=>by
  simp only[aq,eD] at hn;rw[List.findIdx?_cons] at h;by_cases hk:p.1=k
  .simp[hk] at h;subst h;simp only[aq,hk,if_true,fR,List.cons.injEq,true_and];rw[aV (g:=id),List.map_id];intro q hq;have:q.1≠k:=λe=>hn.1 (by rw[hk,<-e];exact PB hq);simp[this]
  .have hb:(p.1 == k)=false:=by simpa using hk
   simp only[hb] at h;obtain⟨i,hi,rfl⟩:=Option.map_eq_some_iff.1 h;simp only[aq,hk,if_false,List.set_cons_succ,List.cons.injEq,true_and];exact lr hn.2 hi
def zJ{k:κ}:∀{m:List (κ×α)} {j:Nat},(m.map (·.1)).Nodup->m.findIdx? (λp=>p.1 == k)=some j->I1 m k=m.eraseIdx j
 | [],j,_,h=>by simp at h
 | p::m,j,hn,h=>by
  simp only[aq,eD] at hn;rw[List.findIdx?_cons] at h;by_cases hk:p.1=k
  .simp[hk] at h;subst h;simp only[I1,List.filter_cons,hk,beq_self_eq_true,Bool.not_true,fS,if_false,List.eraseIdx_zero,List.tail_cons];apply List.filter_eq_self.2;intro q hq;have:q.1≠k:=λe=>hn.1 (by rw[hk,<-e];exact PB hq);simp[this]
  .have hb:(p.1 == k)=false:=by simpa using hk
   simp only[hb] at h;obtain⟨i,hi,rfl⟩:=Option.map_eq_some_iff.1 h;have ih:=zJ hn.2 hi;simp only[I1,List.filter_cons,hb,Bool.not_false,if_true,List.eraseIdx_cons_succ,List.cons.injEq,true_and];exact ih
def oz{m:List (κ×α)}{k q:κ}{a:α}:(cZ m k a).lookup q=if q=k then some a else m.lookup q:=by
 unfold cZ;split
 .rename_i h;induction m with
  | nil=>simp at h
  | cons p m ih =>
   obtain⟨r,x⟩:=p;simp only[aq,cA];by_cases hr:r=k
   .subst hr;simp only[if_true,cA];by_cases hq:q=r
    .subst hq;simp
    .have hb:(q == r)=false:=by simpa using hq
     simp only[hb,hq,if_false];by_cases hm:m.any (λp=>p.1 == r)=true
     .have:=ih hm;simp only[hq,if_false] at this;exact this
     .rw[aV (g:=id),List.map_id];intro p hp;have:p.1≠r:=λe=>hm (List.any_eq_true.2 ⟨p,hp,by simp[e]⟩);simp[this]
   .have hm:m.any (λp=>p.1 == k)=true:=by
     simp only[List.any_cons] at h;have:(r == k)=false:=by simpa using hr
     simpa [this] using h
    simp only[hr,if_false,cA];by_cases hq:q=r
    .subst hq;simp[hr]
    .have hb:(q == r)=false:=by simpa using hq
     simp only[hb];exact ih hm
 .rename_i h;rw[List.lookup_append];by_cases hq:q=k
  .subst hq
   have:m.lookup q=none:=by
    rw[<-oU]
    have:m.findIdx? (λp=>p.1 == q)=none:=by
     rw[List.findIdx?_eq_none_iff];intro p hp;simp only[Bool.not_eq_true] at h;have:=List.any_eq_false.1 h p hp
     simpa using this
    simp[this]
   simp[this]
  .have hb:(q == k)=false:=by simpa using hq
   simp[cA,hb,hq]
def BO{m:List (κ×α)}{k q:κ}:(I1 m k).lookup q=if q=k then none else m.lookup q:=by
 induction m with
 | nil=>simp[I1]
 | cons p m ih =>
  obtain⟨r,x⟩:=p;simp only[I1,List.filter_cons] at ih ⊢;by_cases hr:r=k
  .subst hr;simp only[beq_self_eq_true,Bool.not_true,fS,if_false,ih,cA];by_cases hq:q=r
   .subst hq;simp
   .have hb:(q == r)=false:=by simpa using hq
    simp[hb,hq]
  .have hb:(r == k)=false:=by simpa using hr
   simp only[hb,Bool.not_false,if_true,cA];by_cases hq:q=r
   .subst hq;simp[hr]
   .have B:(q == r)=false:=by simpa using hq
    simp only[B];exact ih
def bQ{m:List (κ×α)}{k:κ}{a:α}(h:m.lookup k=some a):(k,a)∈m:=by
 induction m with
 | nil=>cases h
 | cons p m ih =>
  obtain⟨q,x⟩:=p;rw[cA] at h;by_cases hk:k=q
  .subst hk;simp at h;subst h;exact aA ..
  .have hb:(k == q)=false:=by simpa using hk
   simp only[hb] at h;exact az _ (ih h)
def fj{m:List (κ×α)}(hn:(m.map (·.1)).Nodup){k:κ}{a:α}(h:(k,a)∈m):m.lookup k=some a:=by
 induction m with
 | nil=>cases h
 | cons p m ih =>
  obtain⟨q,x⟩:=p;simp only[aq,eD] at hn;rw[cA];rcases Nj h with e|h'
  .simp only[Prod.mk.injEq] at e;obtain⟨rfl,rfl⟩:=e;simp
  .have:k≠q:=λe=>hn.1 (by rw[<-e];exact PB (f:=(·.1)) h');have hb:(k == q)=false:=by simpa using this
   simp only[hb];exact ih hn.2 h'
end maps
section ops
variable {P:Program}{L:Η}{env:Env}{ty:TypeId}{κ α:Type}
class P0 (P:Program) (ac:Nat) (Ξ η:outParam Nat) (z:outParam Value):Prop where
 under:P.underlying ac=some (.map Ξ η)
 zero:(P.info? η).map (·.zero)=some (some z)
def Ef.c8{t Ξ η:TypeId}{z:Value}{o:Option Operand}[ht:P0 P t Ξ η z](kv:κ->Value)(Ε:α->Value)(ho:o=none\/∃x k n,o=some x/\cq env x=some (.int k n)/\0<=n):Ef P L env (.makeMap t o) ty (λv Γ=>∃b,v=.map (some b)/\Γ = cS kv Ε b []::L) :=
 Ef.val (λθ R a w ea s B pos af g=>⟨_,w.alloc (.map #[] 0),_,by
  rcases ho with rfl|⟨x,k,n,rfl,O,hn⟩
  .simp[execOp,Instr.makeMap]
  .simp[execOp,Instr.makeMap,aJ ea O,run_underlying ht.under,asInt,asIntOf],⟨_,rfl,rfl⟩,Sat.c8 s.alloc cj cj cj cj cj⟩)
variable [DecidableEq κ]
def Ev.w7{t:TypeId}{x y:Operand}{b Ξ η:Nat}{z a2:Value}{kv:κ->Value}{Ε:α->Value}{m:List (κ×α)}{F9:Η}{k:κ}[ht:P0 P t Ξ η z][hk:QZ P Ξ kv][hp:QD L b κ α kv Ε m F9](O:cq env x=some (.map (some b)))(Y:cq env y=some a2)[a4:Sy kv a2 k](ok:Bool) :
  Ev P L env (.lookup t x y ok) ty (if ok then .tuple #[((m.lookup k).map Ε).getD z,.bool (m.lookup k).isSome] else((m.lookup k).map Ε).getD z) :=
 Ev.mk (λθ R _ w ea s _ _ _ _=>by
  obtain rfl:=a4.eq;obtain⟨es,B,e1,e2,e3,e4,e5,s2⟩:=(s.perm (hp.perm.append_right R)).Tk;have hb:=s2.Nr;have hf:=pW (P:=P) (Ξ:=Ξ) k w e1;have M:(getObj b).run P w=.ok (.map es B) w:=by simp[getObj,Sem.run,hb]
  have h3:=ht.zero;rw[<-oU];cases hi:P.info? η with
  | none=>rw[hi] at h3;cases h3
  | some i =>
   rw[hi] at h3;simp at h3;cases hj:m.findIdx? (λp=>p.1 == k) with
   | none =>
    rw[hj] at hf;simp[execOp,aJ ea O,aJ ea Y,Instr.lookup,run_underlying ht.under,M,hk.check,hf,zeroValue,typeInfo,hi,h3]
   | some j =>
    have a3:=(List.findIdx?_eq_some_iff_getElem.1 hj).1;rw[hj] at hf;simp[List.getElem?_eq_getElem a3] at hf;simp[execOp,aJ ea O,aJ ea Y,Instr.lookup,run_underlying ht.under,M,hk.check,hf,List.getElem?_eq_getElem a3])
def Ev.j5{t:TypeId}{x y:Operand}{b Ξ η:Nat}{z B:Value}{kv:κ->Value}{Ε:α->Value}{m:List (κ×α)}{F9:Η}{k:κ}[ht:P0 P t Ξ η z][hk:QZ P Ξ kv][hp:QD L b κ α kv Ε m F9](O:cq env x=some (.map (some b)))(Y:cq env y=some B)[M:Sy kv B k] :
  Ev P L env (.lookup t x y false) ty (((m.lookup k).map Ε).getD z):=by
 have:=Ev.w7 (P:=P) (L:=L) (ty:=ty) (t:=t) O Y false
 simpa using this
theorem Ev.a8{t:TypeId}{x y:Operand}{b Ξ η:Nat}{z B:Value}{kv:κ->Value}{Ε:α->Value}{m:List (κ×α)}{F9:Η}{k:κ}[ht:P0 P t Ξ η z][hk:QZ P Ξ kv][hp:QD L b κ α kv Ε m F9](O:cq env x=some (.map (some b)))(Y:cq env y=some B)[M:Sy kv B k] :
  Ev P L env (.lookup t x y true) ty (.tuple #[((m.lookup k).map Ε).getD z,.bool (m.lookup k).isSome]):=by
 have:=Ev.w7 (P:=P) (L:=L) (ty:=ty) (t:=t) O Y true
 simpa using this
def Ef.d9{t:TypeId}{x y z' : Operand}{b Ξ η:Nat}{z v a4:Value}{kv:κ->Value}{Ε:α->Value}{m:List (κ×α)}{F9:Η}{k:κ}(e:α)[ht:P0 P t Ξ η z][hk:QZ P Ξ kv][hp:QD L b κ α kv Ε m F9](O:cq env x=some (.map (some b)))(Y:cq env y=some a4)(hz:cq env z' = some v)[b2:Sy kv a4 k](hv:v=Ε e)
  : Ef P L env (.mapUpdate t x y z') ty (λ_ Γ=>Γ = cS kv Ε b (cZ m k e)::F9) :=
 Ef.skip (λθ R a w ea s b5 pos af g=>by
  subst hv;obtain rfl:=b2.eq;obtain⟨es,B,e1,e2,e3,e4,e5,s2⟩:=(s.perm (hp.perm.append_right R)).Tk;have hb:=s2.Nr;have hf:=pW (P:=P) (Ξ:=Ξ) k w e1;have a2:(getObj b).run P w=.ok (.map es B) w:=by simp[getObj,Sem.run,hb]
  have b1:=iD (k:=k) (a:=e) e2;cases hj:m.findIdx? (λp=>p.1 == k) with
  | none =>
   rw[hj] at hf;simp only[Option.bind_none] at hf
   have b3:m.any (λp=>p.1 == k)=false:=by
    rw[List.findIdx?_eq_none_iff] at hj;simpa using hj
   refine⟨_,_,?_,rfl,Sat.c8 (s2.SP (o':=.map (es.push { key:=kv k,val:=Ε e,born:=B }) (B+1))) ?_ b1 ?_ ?_ ?_⟩
   .simp[execOp,aJ ea O,aJ ea Y,aJ ea hz,Instr.mapUpdate,run_underlying ht.under,a2,hk.check,hf,iC hb]
   .simp[e1,cZ,b3]
   .simp;omega
   .intro x O;rcases Array.mem_push.1 O with O|rfl
    .have:=e4 x O;omega
    .simp
   .simp only[Array.toList_push,aQ,aq,bz];rw[gI];refine⟨e5,by simp,?_⟩;intro x O y Y;simp at Y;subst Y;obtain⟨q,hq,rfl⟩:=H9 O;have:=e4 q (by simpa using hq)
    omega
  | some j =>
   have a5:m.any (λp=>p.1 == k)=true:=by
    obtain⟨a7,K,_⟩:=List.findIdx?_eq_some_iff_getElem.1 hj;exact List.any_eq_true.2 ⟨m[j],cX a7,K⟩
   have a9:=lr (a:=e) e2 hj;obtain⟨M,b0,_⟩:=List.findIdx?_eq_some_iff_getElem.1 hj;rw[hj] at hf;simp[List.getElem?_eq_getElem M] at hf
   have b6:es.size=m.length:=by
    have:=congrArg List.length e1
    simpa using this
   have a6:((es[j]?).map (·.key)).getD (kv k)=kv k:=by
    have h5:=congrArg (λl=>l[j]?) e1;simp only[List.getElem?_map,List.getElem?_eq_getElem M,Array.getElem?_toList] at h5;rw[Array.getElem?_eq_getElem D] at h5 ⊢;simp at h5 ⊢;rw[h5.1];simp at b0;rw[b0]
   have b4:(Instr.keyThatStays (((es[j]?).map (·.key)).getD (kv k)) (kv k)).run P w=.ok (kv k) w:=by
    rw[a6];simp[Instr.keyThatStays,hk.bits]
   refine⟨_,_,?_,rfl,Sat.c8 (s2.SP (o':=.map (es.modify j λx=>{ x with key:=kv k,val:=Ε e }) B)) ?_ b1 ?_ ?_ ?_⟩
   .simp[execOp,aJ ea O,aJ ea Y,aJ ea hz,Instr.mapUpdate,run_underlying ht.under,a2,hk.check,hf,b4,iC hb]
   .simp only[cZ,a5,if_true,a9];rw[Array.toList_modify];apply gJ;intro i;have h5:=congrArg (λl=>l[i]?) e1;simp only[List.getElem?_map] at h5;simp only[List.getElem?_map,List.getElem?_modify,List.getElem?_set];by_cases a3:j=i
    .subst a3;have a7:j<es.toList.length:=by simp;omega
     simp[M,List.getElem?_eq_getElem a7]
    .simp only[a3,if_false];cases hq:es.toList[i]? with
     | none=>rw[hq] at h5;simpa using h5
     | some q=>rw[hq] at h5;simpa using h5
   .simpa using e3
   .intro x O;obtain⟨i,hi,rfl⟩:=Array.mem_iff_getElem.1 O;rw[Array.getElem_modify];have h6:es[i]'(by simpa using hi)∈es:=Array.getElem_mem _;split
    .exact e4 (es[i]'(by simpa using hi)) h6
    .exact e4 _ h6
   .have:(es.modify j λx=>{ x with key:=kv k,val:=Ε e }).toList.map (·.born)=es.toList.map (·.born):=by
     rw[Array.toList_modify];apply gJ;intro i;simp only[List.getElem?_map,List.getElem?_modify];by_cases a3:j=i
     .subst a3;cases es.toList[j]?<;>simp
     .simp[a3]
    rw[this];exact e5)
def Ef.m6{t kt:TypeId}{x y:Operand}{b Ξ η:Nat}{z a2:Value}{kv:κ->Value}{Ε:α->Value}{m:List (κ×α)}{F9:Η}{k:κ}[ht:P0 P t Ξ η z][hk:QZ P Ξ kv][hp:QD L b κ α kv Ε m F9](O:cq env x=some (.map (some b)))(Y:cq env y=some a2)[a9:Sy kv a2 k]
  : Ef P L env (.call { callee:=.builtin .delete,args:=#[x,y],argTypes:=#[t,kt] }) ty (λ_ Γ=>Γ = cS kv Ε b (I1 m k)::F9) :=
 Ef.val (λθ R a w ea s b0 pos af g=>by
  obtain rfl:=a9.eq;obtain⟨es,B,e1,e2,e3,e4,e5,s2⟩:=(s.perm (hp.perm.append_right R)).Tk;have hb:=s2.Nr;have hf:=pW (P:=P) (Ξ:=Ξ) k w e1;have M:(getObj b).run P w=.ok (.map es B) w:=by simp[getObj,Sem.run,hb]
  have a7:((I1 m k).map (·.1)).Nodup:=e2.sublist ((List.filter_sublist).map _)
  have b2:es.size=m.length:=by
   have:=congrArg List.length e1
   simpa using this
  cases hj:m.findIdx? (λp=>p.1 == k) with
  | none =>
   rw[hj] at hf;simp only[Option.bind_none] at hf;have a4:=List.findIdx?_eq_none_iff.1 hj;have he:I1 m k=m:=List.filter_eq_self.2 λp hp=>by simp[a4 p hp]
   refine⟨.tuple #[],_,_,?_,rfl,Sat.c8 (s2.SP (o':=.map es B)) (by rw[he];exact e1) a7 e3 e4 e5⟩;simp[execOp,resolve,invoke,builtin,aJ ea O,aJ ea Y,Builtin.delete_,run_underlying ht.under,M,hk.check,hf,iC hb]
  | some j =>
   have a5:=zJ e2 hj;obtain⟨a6,b1,_⟩:=List.findIdx?_eq_some_iff_getElem.1 hj;rw[hj] at hf;simp[List.getElem?_eq_getElem a6] at hf
   have a3:(es.eraseIdxIfInBounds j).toList=es.toList.eraseIdx j:=by
    simp[Array.eraseIdxIfInBounds,show j<es.size by omega]
   refine⟨.tuple #[],_,_,?_,rfl,Sat.c8 (s2.SP (o':=.map (es.eraseIdxIfInBounds j) B)) ?_ a7 ?_ ?_ ?_⟩
   .simp[execOp,resolve,invoke,builtin,aJ ea O,aJ ea Y,Builtin.delete_,run_underlying ht.under,M,hk.check,hf,iC hb]
   .rw[a3,a5,jP,jP,e1]
   .have h7:(es.eraseIdxIfInBounds j).size=(es.toList.eraseIdx j).length:=by rw[<-a3,ec]
    have h8:(es.toList.eraseIdx j).length<=es.toList.length:=List.length_eraseIdx_le es.toList j;have h9:es.toList.length=es.size:=ec;omega
   .intro x O;have:x∈es.toList.eraseIdx j:=by rw[<-a3];exact Array.mem_toList_iff.2 O
    exact e4 x (by simpa using List.mem_of_mem_eraseIdx this)
   .rw[a3,jP];exact e5.sublist (List.eraseIdx_sublist _ _))
end ops
section ranges
variable {P:Program}{L:Η}{env:Env}{ty:TypeId}{κ α:Type}{kv:κ->Value}{Ε:α->Value}
def Sat.Wo{θ:Th}{b r:Nat}{m done:List (κ×α)}{L:Η}{w:World}(s:Sat θ (fY kv Ε b m r done::L) w) :
  ∃x:Array MapEntry×Nat×Array Nat×List Nat,VP kv Ε m done x/\Sat θ (jC b (.map x.1 x.2.1)::jC r (.mapIter (some b) x.2.1 x.2.2.1 x.2.1)::L) w:=by
 obtain⟨x,s⟩:=s.TI;have s2:=s.QB;simp only[au,ax] at s2;exact⟨x,s2.TH,s2.tail⟩
def Sat.f5{θ:Th}{b r:Nat}{m done:List (κ×α)}{L:Η}{w:World}(x:Array MapEntry×Nat×Array Nat×List Nat)(O:VP kv Ε m done x)(s:Sat θ (jC b (.map x.1 x.2.1)::jC r (.mapIter (some b) x.2.1 x.2.2.1 x.2.1)::L) w) :
  Sat θ (fY kv Ε b m r done::L) w:=Sat.d8 x (Sat.a8 (Ο:=[ee (VP kv Ε m done x),jC b (.map x.1 x.2.1),jC r (.mapIter (some b) x.2.1 x.2.2.1 x.2.1)]) (s.Vb O))
theorem Ef.g9{t Ξ η:TypeId}{z:Value}{x:Operand}{b:Nat}{m:List (κ×α)}{F9:Η}[ht:P0 P t Ξ η z][hp:QD L b κ α kv Ε m F9](O:cq env x=some (.map (some b))) :
  Ef P L env (.range t x) ty (λv Γ=>∃r,v=av r/\Γ = fY kv Ε b m r []::F9) :=
 Ef.val (λθ R a w ea s a2 pos af g=>by
  obtain⟨es,B,e1,e2,e3,e4,e5,s2⟩:=(s.perm (hp.perm.append_right R)).Tk;have hb:=s2.Nr;have M:(getObj b).run P w=.ok (.map es B) w:=by simp[getObj,Sem.run,hb]
  refine⟨_,w.alloc (.mapIter (some b) B #[] B),_,?_,⟨w.heap.size,rfl,rfl⟩,?_⟩
  .simp[execOp,Instr.range,aJ ea O,run_underlying ht.under,M]
  .refine Sat.f5 (es,B,#[],[]) ⟨e1,e2,e3,e4,e5,by simp,by simp,by simp,by simp⟩ ?_;exact(Sat.alloc s2).perm (List.Perm.swap _ _ _))
def wZ{n:Nat}{js:List Nat}(K:js.Nodup)(T:∀j∈js,j<n)(h3:∀j,j<n->j∈js):js.Perm (List.range n) :=
 (List.perm_ext_iff_of_nodup K List.nodup_range).2 λj=>⟨λh=>List.mem_range.2 (T j h),λh=>h3 j (List.mem_range.1 h)⟩
def ug{β:Type}(m:List β):(List.range m.length).filterMap (λj=>m[j]?)=m:=by
 induction m with
 | nil=>rfl
 | cons x m ih =>
  rw[aK,List.range_succ_eq_map];simp only[List.filterMap_cons,List.getElem?_cons_zero,List.filterMap_map,Function.comp_def,List.getElem?_cons_succ,Nat.succ_eq_add_one];rw[ih]
def qk{β:Type}{m:List β}:∀{js:List Nat},(∀j∈js,j<m.length)->(js.filterMap (λj=>m[j]?)).length=js.length
 | [],_=>rfl
 | j::js,h=>by
  rw[List.filterMap_cons,List.getElem?_eq_getElem (h j (aA ..))];simp only[aK,qk λi hi=>h i (az _ hi)]
def wn:∀{n:Nat} {js:List Nat},js.Nodup->(∀j∈js,j<n)->js.length<=n
 | 0,js,_,T=>by
  cases js with
  | nil=>simp
  | cons j js=>exact hD (T j (aA ..)) D
 | n+1,js,K,T=>by
  have ih:=wn (n:=n) (js:=js.erase n) (K.erase n) (λj hj=>by
   have h3:=(List.Nodup.mem_erase_iff K).1 hj;have:=T j h3.2
   omega)
  have:=List.length_erase (a:=n) (l:=js)
  split at this<;>omega
def Ef.j6{it:Operand}{b r:Nat}{m done:List (κ×α)}{F9:Η}[hp:Vh L r κ α kv Ε b m done F9](O:cq env it=some (av r)) :
  Ef P L env (.next it false) ty (λv Γ=>(v=.tuple #[.bool false]/\Γ = fY kv Ε b m r done::F9/\done.Perm m)\/(∃p,v=.tuple #[.bool true,kv p.1,Ε p.2]/\Γ = fY kv Ε b m r (done++[p])::F9/\p∈m/\p∉done/\done.length<m.length)) :=
 Ef.val (λθ R a w ea s b9 pos af g=>by
  obtain⟨⟨es,B,seen,js⟩,⟨e1,e2,e3,e4,e5,j1,j2,j3,j4⟩,s2⟩:=(s.perm (hp.perm.append_right R)).Wo;dsimp only at e1 e3 e4 e5 j1 j2 j3 j4 s2;have hb:=s2.Nr;have hr:=(s2.perm (List.Perm.swap _ _ _)).Nr
  have c1:es.size=m.length:=by
   have:=congrArg List.length e1
   simpa using this
  have a3:∀j,j∈js->∃e,es[j]? = some e/\e.born∈seen:=by
   intro j hj;have c0:=j2 j hj;refine⟨es[j]'(by omega),Array.getElem?_eq_getElem D,?_⟩
   have:(es[j]'(by omega)).born∈seen.toList:=by
    rw[j4];exact List.mem_filterMap.2 ⟨j,hj,by simp[Array.getElem?_eq_getElem (D:j<es.size)]⟩
   simpa using this
  have a4:∀x∈seen,∃j∈js,∃e,es[j]? = some e/\e.born=x:=by
   intro x O;have:x∈seen.toList:=by simpa using O
   rw[j4] at this;obtain⟨j,hj,b4⟩:=List.mem_filterMap.1 this;obtain⟨e,he,a5⟩:=Option.map_eq_some_iff.1 b4;exact⟨j,hj,e,he,a5⟩
  have a9:∀(i j:Nat) (hi:i<es.size) (hj:j<es.size),es[i].born=es[j].born->i=j:=by
   intro i j hi hj he;have K:(es.toList.map (·.born))[i]'(by simpa using hi)=(es.toList.map (·.born))[j]'(by simpa using hj):=by simpa using he
   exact(List.getElem_inj e5).1 K
  have b6:∀(j:Nat) (hj:j<es.size),es[j].key=kv (m[j]'(by omega)).1/\es[j].val=Ε (m[j]'(by omega)).2:=by
   intro j hj;have h5:=congrArg (λl=>l[j]?) e1;simp only[List.getElem?_map,Array.getElem?_toList,Array.getElem?_eq_getElem hj,List.getElem?_eq_getElem (D:j<m.length)] at h5;simpa using h5
  rcases run_next_at (P:=P) w ty r b B B seen es B hr hb (λx O=>e4 x (by simpa using O)) (an _) with⟨h0,a2⟩|⟨e,he,w1,b8,a2⟩
  .refine⟨_,w,_,?_,.inl ⟨rfl,rfl,?_⟩,Sat.f5 (es,B,seen,js) ⟨e1,e2,e3,e4,e5,j1,j2,j3,j4⟩ s2⟩
   .simp[execOp,aJ ea O,a2]
   .have a6:∀j,j<m.length->j∈js:=by
     intro j hj
     have U:es[j]'(by omega)∉leftOf es seen:=by
      have:leftOf es seen=#[]:=Array.eq_empty_of_size_eq_zero h0;rw[this];simp
     simp only[leftOf,Array.mem_filter,not_and] at U;have K:=U (Array.getElem_mem _);have T:(es[j]'(by omega)).born∈seen:=by simpa using K
     obtain⟨i,hi,e,he,a5⟩:=a4 _ T;have M:=j2 i hi;rw[Array.getElem?_eq_getElem D] at he;simp only[Option.some.injEq] at he;rw[<-he] at a5;rw[<-a9 i j D D a5];exact hi
    rw[j3];exact((wZ j1 j2 a6).filterMap _).trans (by rw[ug])
  .have b2 : e∈es/\e.born∉seen:=by
    have:e∈leftOf es seen:=by simpa using he
    simp only[leftOf,Array.mem_filter] at this;exact⟨this.1,by simpa using this.2⟩
   obtain⟨j,hj,rfl⟩:=Array.mem_iff_getElem.1 b2.1
   have b0:j∉js:=by
    intro b5;obtain⟨e,K,T⟩:=a3 j b5;rw[Array.getElem?_eq_getElem hj] at K;simp only[Option.some.injEq] at K;rw[<-K] at T;exact b2.2 T
   have b3:j<m.length:=D
   have b7:m[j]∉done:=by
    rw[j3];intro b1;obtain⟨i,hi,a7⟩:=List.mem_filterMap.1 b1;have M:=j2 i hi;rw[List.getElem?_eq_getElem M] at a7;simp only[Option.some.injEq] at a7;have K:(m.map (·.1))[i]'(by simpa using M)=(m.map (·.1))[j]'(by simpa using b3):=by simp[a7]
    have:=(List.getElem_inj e2).1 K
    exact b0 (this▸hi)
   have hk:=b6 j hj;refine⟨_,ChangeMaps.setBlock w1 r (.mapIter (some b) B (seen.push es[j].born) B),_,?_,.inr ⟨m[j],rfl,rfl,cX _,b7,?_⟩,Sat.f5 (es,B,seen.push es[j].born,js++[j]) ⟨e1,e2,e3,e4,e5,?_,?_,?_,?_⟩ ?_⟩
   .rw[<-hk.1,<-hk.2];simp[execOp,aJ ea O,a2]
   .rw[j3,qk j2]
    have:=wn (n:=m.length) (js:=js++[j]) (by
     rw[gI];exact⟨j1,by simp,by intro x O y Y;simp at Y;subst Y;rintro rfl;exact b0 O⟩) (by
     intro i hi;rcases J8 hi with h|h
     .exact j2 i h
     .simp at h;omega)
    simp at this;omega
   .show(js++[j]).Nodup;rw[gI];exact⟨j1,by simp,by intro x O y Y;simp at Y;subst Y;rintro rfl;exact b0 O⟩
   .intro i hi;rcases J8 hi with h|h
    .exact j2 i h
    .simp at h;omega
   .simp[j3,List.filterMap_append,List.getElem?_eq_getElem b3]
   .simp[j4,List.filterMap_append,Array.getElem?_eq_getElem hj]
   ··have s3:Sat θ (jC r (.mapIter (some b) B seen B)::jC b (.map es B)::(F9++R)) w1:=by
      rcases b8 with rfl|rfl
      .exact s2.perm (List.Perm.swap _ _ _)
      .exact(Sat.drew s2).perm (List.Perm.swap _ _ _)
     exact(Sat.SP (o':=.mapIter (some b) B (seen.push es[j].born) B) s3).perm (List.Perm.swap _ _ _))
def Ev.j6{it:Operand}{b r:Nat}{m done M : List (κ×α)}{p:κ×α}{F9:Η}[hp:Vh L r κ α kv Ε b m M F9](hd:M = done++[p])(O:cq env it=some (av r)) :
  Ev P L env (.entry it) ty (.tuple #[kv p.1,Ε p.2]) :=
 Ev.mk (λθ R _ w ea s _ _ _ _=>by
  subst hd;obtain⟨⟨es,B,seen,js⟩,⟨e1,e2,e3,e4,e5,j1,j2,j3,j4⟩,s2⟩:=(s.perm (hp.perm.append_right R)).Wo;dsimp only at e1 e3 e4 e5 j1 j2 j3 j4 s2;have hb:=s2.Nr;have hr:=(s2.perm (List.Perm.swap _ _ _)).Nr
  have a7:es.size=m.length:=by
   have:=congrArg List.length e1
   simpa using this
  rcases List.eq_nil_or_concat js with rfl|⟨a6,j,rfl⟩
  .simp at j3
  .have a2:j<m.length:=j2 j cj;have hj:j<es.size:=D;rw[List.concat_eq_append] at j3 j4;simp[List.filterMap_append,List.getElem?_eq_getElem a2] at j3;simp[List.filterMap_append,Array.getElem?_eq_getElem hj] at j4;have a4:p=m[j]:=j3.2
   have a3:es[j].key=kv p.1/\es[j].val=Ε p.2:=by
    have h5:=congrArg (λl=>l[j]?) e1;simp only[List.getElem?_map,Array.getElem?_toList,Array.getElem?_eq_getElem hj,List.getElem?_eq_getElem a2] at h5;rw[a4];simpa using h5
   have a5:seen=(a6.filterMap (λj=>(es[j]?).map (·.born))).toArray.push es[j].born:=by
    apply Array.ext';simp[j4]
   rw[a5] at hr;have:=run_entry_at (P:=P) w r b B _ es B es[j] hr hb cj e5
   rw[a3.1,a3.2] at this;simp[execOp,aJ ea O,this])
def F.j8{b r:Nat}{m done:List (κ×α)}:F (fY kv Ε b m r done::L) (cS kv Ε b m::L):=λθ R w s=>by
 obtain⟨⟨es,B,seen,js⟩,⟨e1,e2,e3,e4,e5,_⟩,s2⟩:=Sat.Wo s;exact Sat.c8 ((s2.perm (List.Perm.swap _ _ _)).tail) e1 e2 e3 e4 e5
