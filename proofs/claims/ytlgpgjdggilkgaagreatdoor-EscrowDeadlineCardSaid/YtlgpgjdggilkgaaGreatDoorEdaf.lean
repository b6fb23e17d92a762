/- Maps with keys of any type that is compared by value, ranges over maps, structs of integers compared. Holds for any program whose type tables are as the classes say. -/
import Derived.Test.YtlgpgjdggilkgaaGreatDoorEdae
import Derived.Maps.RangeRun
import Derived.Laws.StructEq
set_option linter.all false
namespace Go.V
class Rp (P:Program) (an:Nat) (n:outParam Nat):Prop where
 under:P.underlying an=some (.struct (P.fieldsOf an))
 free:P.stoodInHeld an=false
 guard:P.eqGuardType P.depth an=false
 Ue : (P.fieldsOf an).toList.map (λf => (f.name == "_", f.offset, P.underlying f.type)) = (List.range n).map λi => (false, i, some (.int .i64))
 one:∀f∈(P.fieldsOf an).toList,∀w,(isAgg f.type).run P w=.ok false w
theorem Rp.of{P:Program}{an n:Nat}(I:P.underlying an=some (.struct (P.fieldsOf an)))(Q:P.stoodInHeld an=false)(h3:P.eqGuardType P.depth an=false)
  (h4 : (P.fieldsOf an).toList.map (λf => (f.name == "_", f.offset, P.underlying f.type)) = (List.range n).map λi => (false, i, some (.int .i64)))
  (Z4:(P.fieldsOf an).toList.all (λf=>(P.info? f.type).isSome)=true):Rp P an n :=
 ⟨I,Q,h3,h4,λf hf w=>by
  have h6 : (f.name == "_", f.offset, P.underlying f.type) ∈ (List.range n).map λi => (false, i, some (TypeDesc.int .i64)) := by rw [<- h4]; exact O6 hf
  obtain⟨i,_,hi⟩:=H8 h6;simp only[Prod.mk.injEq] at hi;have hu:=hi.2.2.symm;simp[isAgg,run_underlying hu]⟩
def gG{P:Program}{an:Nat}{cs:Array Value}{i:Nat}{v:Value}{w:World}(I:∀w,(isAgg an).run P w=.ok false w)(h:cs[i]? = some v):(part an cs i).run P w=.ok v w:=by
 simp[part,I w,h]
def YN {P : Program} {w : World} {Ξ : Nat} {G ys : List Int} : ∀ (fs : List Field) (i : Nat), fs.map (λf => (f.name == "_", f.offset, P.underlying f.type)) = (List.range' i fs.length).map (λi => (false, i, some (TypeDesc.int .i64))) ->
  (∀f∈fs,∀w,(isAgg f.type).run P w=.ok false w)->i+fs.length=G.length->G.length=ys.length ->
  (Op.eqFields (Ξ+1) (G.map (Value.int .i64)).toArray (ys.map (Value.int .i64)).toArray fs).run P w=.ok (decide (G.drop i=ys.drop i)) w:=by
 intro fs;induction fs with
 | nil =>
  intro i _ _ Q h3;simp only[bq] at Q;rw[bV D,bV D];simp[Op.eqFields]
 | cons f fs ih =>
  intro i I ho Q h3;simp only [aL] at Q;simp only [al,aL,List.range'_succ,List.cons.injEq,Prod.mk.injEq] at I;obtain ⟨⟨hn,hoff,hu⟩,hr⟩:=I;have hn' : f.name ≠ "_" := by simpa using hn
  have Vj:i<G.length:=D;have W7:i<ys.length:=D;have hf:=ho f (au ..);have e1:(G.map (Value.int .i64)).toArray[i]? = some (K G[i]):=by simp[Vj]
  have e2:(ys.map (Value.int .i64)).toArray[i]? = some (K ys[i]):=by simp[W7]
  have VV:=ih (i+1) hr (λg hg=>ho g (az _ hg)) D h3;simp only[Op.eqFields,Ω hn',hoff,Sem.run_bind,gG hf e1,gG hf e2,Result.andThen_ok,run_equalIn_int w Ξ f.type .i64 .i64 G[i] ys[i] hu];rw[bZ Vj,bZ W7];by_cases he:G[i]=ys[i]
  .simp only[he,beq_self_eq_true,Bool.not_true,em,if_false,VV,List.cons.injEq,true_and]
  .have hb:(G[i] == ys[i])=false:=by simpa using he
   simp only[hb,Bool.not_false,if_true,Sem.run_pure,List.cons.injEq,he,false_and,decide_false]
def nh{P:Program}{an n:Nat}[h:Rp P an n]{w:World}{Ξ:Nat}{G ys:List Int}(M:G.length=n)(U:ys.length=n) :
  (Op.equalIn (Ξ+2) an (.agg (G.map (Value.int .i64)).toArray) (.agg (ys.map (Value.int .i64)).toArray)).run P w=.ok (decide (G=ys)) w:=by
 rw[run_equalIn_struct w (Ξ+1) an _ _ h.under h.free]
 have T:(P.fieldsOf an).toList.length=n:=by
  have:=congrArg List.length h.Ue
  simpa using this
 have:=YN (P:=P) (w:=w) (Ξ:=Ξ) (G:=G) (ys:=ys) (P.fieldsOf an).toList 0 (by rw[T,<-List.range_eq_range'];exact h.Ue) h.one D D
 simpa using this
class TJ (cs:χ) (G:outParam (List Int)):Prop where
 eq:cs=G.map (Value.int .i64)
instance:TJ [] []:=⟨rfl⟩
instance (a:Int)(cs:χ)(G:List Int)[h:TJ cs G]:TJ (K a::cs) (a::G):=⟨by rw[h.eq];rfl⟩
section
variable {P:Program}{L:Ι}{env:Env}{ty:TypeId}
def Z.w9{t yt:TypeId}{x y:Operand}{n:Nat}[h:Rp P t n]{cs ds:χ}(M:bG env x=some (.agg cs.toArray))(U:bG env y=some (.agg ds.toArray)){G ys:List Int}[hc:TJ cs G][hd:TJ ds ys](T:G.length=n)(A : ys.length=n) :
  Z P L env (.binOp .eql t x y yt) ty (.bool (dB (G=ys))) :=
 Z.mk (λθ R _ w ea s _ _ _ _=>by
  rw[hc.eq] at M;rw[hd.eq] at U;have I:=nh (P:=P) (an:=t) (w:=w) (Ξ:=9998) T A;simp[execOp,aI ea M,aI ea U,run_eqGuard_agg w .eql t x y _ _ h.guard,run_eql_struct,I,dF])
def Z.w6{t yt:TypeId}{x y:Operand}{n:Nat}[h:Rp P t n]{cs ds:χ}(M:bG env x=some (.agg cs.toArray))(U:bG env y=some (.agg ds.toArray)){G ys:List Int}[hc:TJ cs G][hd:TJ ds ys](T:G.length=n)(A : ys.length=n) :
  Z P L env (.binOp .neq t x y yt) ty (.bool (dB (¬G=ys))) :=
 Z.mk (λθ R _ w ea s _ _ _ _=>by
  rw[hc.eq] at M;rw[hd.eq] at U;have I:=nh (P:=P) (an:=t) (w:=w) (Ξ:=9998) T A;simp[execOp,aI ea M,aI ea U,run_eqGuard_agg w .neq t x y _ _ h.guard,run_neq_struct,I,dF])
end
class Qx (P:Program) (Ρ:TypeId) {κ:Type} [DecidableEq κ] (kv:κ->Value):Prop where
 inj:∀a b,kv a=kv b->a=b
 check:∀e k w,(Instr.checkKey e 10000 Ρ (kv k)).run P w=.ok () w
 bits:∀k,Instr.sameBits 10000 (kv k) (kv k)=true
 find:∀(k:κ) (es:List MapEntry) (ks:List κ) w,es.map (·.key)=ks.map kv->(Instr.findKey Ρ (kv k) es).run P w=.ok ((ks.findIdx? (λq=>q == k)).bind λj=>(es[j]?).map λe=>(j,e.val)) w
def oz{κ:Type}[DecidableEq κ]{kv:κ->Value}{Ξ:TypeDesc}(hs:∀a b:κ,Instr.sameNow Ξ (kv a) (kv b)=some (decide (a=b)))(k:κ):∀(es:List MapEntry) (ks:List κ) (i:Nat),es.map (·.key)=ks.map kv ->
  Instr.findNow Ξ (kv k) es i=some ((ks.findIdx? (λq=>q == k)).bind λj=>(es[j]?).map λe=>(i+j,e.val))
 | [],[],i,_=>by simp[Instr.findNow]
 | [],_::_,_,h=>by simp at h
 | _::_,[],_,h=>by simp at h
 | e::es,p::ks,i,h=>by
  simp only[al,List.cons.injEq] at h;obtain⟨I,h3⟩:=h;have ih:=oz hs k es ks (i+1) h3;simp only[Instr.findNow,I,hs];by_cases hk:k=p
  .subst hk;simp[List.findIdx?_cons]
  .have A : (p == k)=false:=by simpa using λh=>hk h.symm
   simp only[hk,decide_false,ih,List.findIdx?_cons,A];cases hf:List.findIdx? (λq=>q == k) ks<;>simp;rename_i j;rw[show i+1+j=i+(j+1) by omega]
def lE{P:Program}{Ρ:TypeId}{κ:Type}[DecidableEq κ]{kv:κ->Value}{w:World}(hs:∀a b:κ,(Op.equal Ρ (kv a) (kv b)).run P w=.ok (decide (a=b)) w)(k:κ):∀(es:List MapEntry) (ks:List κ) (i:Nat),es.map (·.key)=ks.map kv ->
  (Instr.findAsking Ρ (kv k) es i).run P w=.ok ((ks.findIdx? (λq=>q == k)).bind λj=>(es[j]?).map λe=>(i+j,e.val)) w
 | [],[],i,_=>by simp[Instr.findAsking]
 | [],_::_,_,h=>by simp at h
 | _::_,[],_,h=>by simp at h
 | e::es,p::ks,i,h=>by
  simp only[al,List.cons.injEq] at h;obtain⟨I,h3⟩:=h;have ih:=lE hs k es ks (i+1) h3;simp only[Instr.findAsking,I,Sem.run_bind,hs,Result.andThen_ok];by_cases hk:k=p
  .subst hk;simp[List.findIdx?_cons]
  .have A : (p == k)=false:=by simpa using λh=>hk h.symm
   simp only[hk,decide_false,em,if_false,ih,List.findIdx?_cons,A];cases hf:List.findIdx? (λq=>q == k) ks<;>simp;rename_i j;rw[show i+1+j=i+(j+1) by omega]
def gT(k:Int):Value:=K k
def Qy(s:ByteArray):Value:=.string s
def D6(p:Int×Int):Value:=.agg ([p.1,p.2].map (Value.int .i64)).toArray
theorem YO{P:Program}{Ρ:TypeId}[h:Qv P Ρ .i64]:Qx P Ρ gT where
 inj a b h:=by simpa [gT] using h
 check e k w:=by
  have:∀m,(Instr.checkKey e (m+1) Ρ (gT k)).run P w=.ok () w:=λm=>by simp[Instr.checkKey,gT,run_underlying h.under]
  exact this 9999
 bits k:=by
  show Instr.sameBits (9999+1) (K k) (K k)=true;simp[Instr.sameBits]
 find k es ks w he:=by
  have:=oz (kv:=gT) (Ξ:=.int .i64) (λa b=>by simp[gT,Instr.sameNow];rfl) k es ks 0 he
  simp only[Instr.findKey,Sem.run_bind,run_underlying h.under,Result.andThen_ok,this,Sem.run_pure,dv]
theorem YP{P:Program}{Ρ:TypeId}[h:Ub P Ρ]:Qx P Ρ Qy where
 inj a b h:=by simpa [Qy] using h
 check e k w:=by
  have:∀m,(Instr.checkKey e (m+1) Ρ (Qy k)).run P w=.ok () w:=λm=>by simp[Instr.checkKey,Qy,run_underlying h.under]
  exact this 9999
 bits k:=by
  show Instr.sameBits (9999+1) (.string k) (.string k)=true;simp only[Instr.sameBits,beq_toListBytes,beq_self_eq_true]
 find k es ks w he:=by
  have:=oz (kv:=Qy) (Ξ:=.string) (λa b=>by simp only[Qy,Instr.sameNow,beq_toListBytes,Aj]) k es ks 0 he
  simp only[Instr.findKey,Sem.run_bind,run_underlying h.under,Result.andThen_ok,this,Sem.run_pure,dv]
def BW{P:Program}{Ρ n:Nat}[h:Rp P Ρ n]{e:Bool}{G:List Int}{w:World}(M:G.length=n):(Instr.checkKey e 10000 Ρ (.agg (G.map (Value.int .i64)).toArray)).run P w=.ok () w:=by
 have T:(P.fieldsOf Ρ).toList.length=n:=by
  have:=congrArg List.length h.Ue
  simpa using this
 have main:∀k:Nat,(∀an n,P.underlying an=some (TypeDesc.int .i64)->(Instr.checkKey e k an (K n)).run P w=.ok () w)->(Instr.checkKey e (k+1) Ρ (.agg (G.map (Value.int .i64)).toArray)).run P w=.ok () w:=by
  intro k hk
  have aux : ∀ (fs : List Field) (i : Nat), fs.map (λf => (f.name == "_", f.offset, P.underlying f.type)) = (List.range' i fs.length).map (λi => (false, i, some (TypeDesc.int .i64))) ->
    (∀f∈fs,∀w,(isAgg f.type).run P w=.ok false w)->i+fs.length=G.length ->
    (forIn fs PUnit.unit λf Δ=>(do
     if f.name ≠ "_" then
      Instr.checkKey e k f.type (<- part f.type (G.map (Value.int .i64)).toArray f.offset)
      pure (ForInStep.yield PUnit.unit)
     else pure (ForInStep.yield PUnit.unit):Sem (ForInStep PUnit))).run P w=.ok PUnit.unit w:=by
   intro fs;induction fs with
   | nil=>intro i _ _ _;simp
   | cons f fs ih =>
    intro i I ho Q;simp only [aL] at Q;simp only [al,aL,List.range'_succ,List.cons.injEq,Prod.mk.injEq] at I;obtain ⟨⟨hn,hoff,hu⟩,hr⟩:=I;have hn' : f.name ≠ "_" := by simpa using hn
    have Vj:i<G.length:=D;have hf:=ho f (au ..);have e1:(G.map (Value.int .i64)).toArray[i]? = some (K G[i]):=by simp[Vj]
    have VV:=ih (i+1) hr (λg hg=>ho g (az _ hg)) D;rw[List.forIn_cons];simp only[Ω hn',hoff,Sem.run_bind,gG hf e1,Result.andThen_ok,hk _ _ hu,Sem.run_pure];exact VV
  have:=aux (P.fieldsOf Ρ).toList 0 (by rw[T,<-List.range_eq_range'];exact h.Ue) h.one D
  simp only[Instr.checkKey,Sem.run_bind,run_underlying h.under,Result.andThen_ok];rw[<-Array.forIn_toList];simp at this ⊢;rw[this];rfl
 exact main 9999 λan n hT=>by
  have:∀m,(Instr.checkKey e (m+1) an (K n)).run P w=.ok () w:=λm=>by simp[Instr.checkKey,run_underlying hT]
  exact this 9998
theorem W8{P:Program}{Ρ:TypeId}[h:Rp P Ρ 2]:Qx P Ρ D6 where
 inj a b h:=by
  simp[D6] at h;exact Prod.ext h.1 h.2
 check e k w:=BW (G:=[k.1,k.2]) rfl
 bits k:=by
  have:∀n,Instr.sameBits (n+1) (D6 k) (D6 k)=true:=λn=>by simp[Instr.sameBits,D6]
  exact this 9999
 find k es ks w he:=by
  have hq:∀a b:Int×Int,(Op.equal Ρ (D6 a) (D6 b)).run P w=.ok (decide (a=b)) w:=by
   intro a b;have:=nh (P:=P) (an:=Ρ) (w:=w) (Ξ:=9998) (G:=[a.1,a.2]) (ys:=[b.1,b.2]) rfl rfl
   have e:decide ([a.1,a.2]=[b.1,b.2])=decide (a=b):=by
    obtain⟨J,a2⟩:=a;obtain⟨b1,b2⟩:=b;simp
   rw[<-e];exact this
  have Q:=lE (P:=P) (Ρ:=Ρ) (w:=w) hq k es ks 0 he;simp only[Instr.findKey,Sem.run_bind,run_underlying h.under,Result.andThen_ok];cases es with
  | nil =>
   cases ks with
   | nil=>simp[Instr.findNow]
   | cons _ _=>simp at he
  | cons x es =>
   cases ks with
   | nil=>simp at he
   | cons q ks =>
    have hk:x.key=D6 q:=by simp at he;exact he.1
    have hn:Instr.findNow (.struct (P.fieldsOf Ρ)) (D6 k) (x::es) 0=none:=by simp[Instr.findNow,Instr.sameNow]
    rw[hn];simp only[dv] at Q;exact Q
class RX {κ:Type} (kv:κ->Value) (v:Value) (k:outParam κ):Prop where
 eq:v=kv k
instance (n:Int):RX gT (K n) n:=⟨rfl⟩
instance (s:ByteArray):RX Qy (.string s) s:=⟨rfl⟩
instance (a b:Int):RX D6 (.agg #[K a,K b]) (a,b):=⟨rfl⟩
instance (n:Int):RX gT (gT n) n:=⟨rfl⟩
def ew{κ α:Type}(kv:κ->Value)(Η:α->Value)(b:Nat)(m:List (κ×α)):HP:=λ_ h =>
 ∃es A,h b=some (.map es A)/\es.toList.map (λe=>(e.key,e.val))=m.map (λp=>(kv p.1,Η p.2))/\(m.map (·.1)).Nodup/\es.size<=A/\(∀e∈es,e.born<A)/\(es.toList.map (·.born)).Nodup
def Vk{κ α:Type}(kv:κ->Value)(Η:α->Value)(m done:List (κ×α))(x:Array MapEntry×Nat×Array Nat×List Nat):Prop :=
 x.1.toList.map (λe=>(e.key,e.val))=m.map (λp=>(kv p.1,Η p.2))/\(m.map (·.1)).Nodup/\x.1.size<=x.2.1/\(∀e∈x.1,e.born<x.2.1)/\(x.1.toList.map (·.born)).Nodup /\
  x.2.2.2.Nodup/\(∀j∈x.2.2.2,j<m.length)/\done=x.2.2.2.filterMap (λj=>m[j]?)/\x.2.2.1.toList=x.2.2.2.filterMap (λj=>(x.1[j]?).map (·.born))
def fZ{κ α:Type}(kv:κ->Value)(Η:α->Value)(b:Nat)(m:List (κ×α))(Δ:Nat)(done:List (κ×α)):HP:=hex λx:Array MapEntry×Nat×Array Nat×List Nat =>
 cw [ee (Vk kv Η m done x),sh b (.map x.1 x.2.1),sh Δ (.mapIter (some b) x.2.1 x.2.2.1 x.2.1)]
class Qg (L:Ι) (b:Nat) (κ α:outParam Type) (kv:outParam (κ->Value)) (Η:outParam (α->Value)) (m:outParam (List (κ×α))) (R:outParam (Ι)):Prop where
 perm:L.Perm (ew kv Η b m::R)
instance {κ α:Type}(L:Ι)(b:Nat)(kv:κ->Value)(Η:α->Value)(m:List (κ×α)):Qg (ew kv Η b m::L) b κ α kv Η m L:=⟨List.Perm.refl _⟩
instance {κ α:Type}(Φ:HP)(L:Ι)(b:Nat)(kv:κ->Value)(Η:α->Value)(m:List (κ×α))(R:Ι)[h:Qg L b κ α kv Η m R]:Qg (Φ::L) b κ α kv Η m (Φ::R):=⟨(h.perm.cons Φ).trans (List.Perm.swap _ _ _)⟩
class UL (L:Ι) (Δ:Nat) (κ α:outParam Type) (kv:outParam (κ->Value)) (Η:outParam (α->Value)) (b:outParam Nat) (m done:outParam (List (κ×α))) (R:outParam (Ι)):Prop where
 perm:L.Perm (fZ kv Η b m Δ done::R)
instance {κ α:Type}(L:Ι)(b Δ:Nat)(kv:κ->Value)(Η:α->Value)(m done:List (κ×α)):UL (fZ kv Η b m Δ done::L) Δ κ α kv Η b m done L:=⟨List.Perm.refl _⟩
instance {κ α:Type}(Φ:HP)(L:Ι)(b Δ:Nat)(kv:κ->Value)(Η:α->Value)(m done:List (κ×α))(R:Ι)[h:UL L Δ κ α kv Η b m done R]:UL (Φ::L) Δ κ α kv Η b m done (Φ::R):=⟨(h.perm.cons Φ).trans (List.Perm.swap _ _ _)⟩
section mapsP
variable {κ α:Type}
def Sat.SK{θ:Th}{kv:κ->Value}{Η:α->Value}{b:Nat}{m:List (κ×α)}{L:Ι}{w:World}(s:Sat θ (ew kv Η b m::L) w) :
  ∃es A,es.toList.map (λe=>(e.key,e.val))=m.map (λp=>(kv p.1,Η p.2))/\(m.map (·.1)).Nodup/\es.size<=A/\(∀e∈es,e.born<A)/\(es.toList.map (·.born)).Nodup/\Sat θ (sh b (.map es A)::L) w:=by
 obtain⟨ok,ι,h,a,b1,c,G6,E4,D5,d1,d2,d3,d4,⟨es,A,e1,e2,e3,e4,e5,e6⟩,d6⟩:=s;exact⟨es,A,e2,e3,e4,e5,e6,ok,ι,h,a,b1,c,G6,E4,D5,d1,d2,d3,d4,e1,d6⟩
def Sat.c8{θ:Th}{kv:κ->Value}{Η:α->Value}{b:Nat}{m:List (κ×α)}{L:Ι}{w:World}{es:Array MapEntry}{A:Nat}(s:Sat θ (sh b (.map es A)::L) w)
  (I:es.toList.map (λe=>(e.key,e.val))=m.map (λp=>(kv p.1,Η p.2))) (Q:(m.map (·.1)).Nodup) (h3:es.size<=A) (h4:∀e∈es,e.born<A) (h5:(es.toList.map (·.born)).Nodup):Sat θ (ew kv Η b m::L) w:=by
 obtain⟨ok,ι,h,a,b1,c,G6,E4,D5,d1,d2,d3,d4,d5,d6⟩:=s;exact⟨ok,ι,h,a,b1,c,G6,E4,D5,d1,d2,d3,d4,⟨es,A,d5,I,Q,h3,h4,h5⟩,d6⟩
def eN{kv:κ->Value}{Η:α->Value}{b:Nat}{m:List (κ×α)}{L R:Ι}[hp:Qg L b κ α kv Η m R]:∀θ R w,Sat θ (L++R) w->(m.map (·.1)).Nodup:=λθ R w s=>by
 obtain⟨es,A,e1,e2,_⟩:=(s.perm (hp.perm.append_right R)).SK;exact e2
end mapsP
section maps
variable {κ α:Type}[DecidableEq κ]
def ez(m:List (κ×α))(k:κ)(a:α):List (κ×α):=if m.any (λp=>p.1 == k) then m.map (λp=>if p.1=k then(k,a) else p) else m++[(k,a)]
def I1(m:List (κ×α))(k:κ):List (κ×α):=m.filter (λp=>!(p.1 == k))
def uR{m:List (κ×α)}{k:κ}:(m.map (·.1)).findIdx? (λq=>q == k)=m.findIdx? (λp=>p.1 == k):=by
 induction m with
 | nil=>rfl
 | cons p m ih=>simp only[al,List.findIdx?_cons,ih]
def oO{m:List (κ×α)}{k:κ}:(m.findIdx? (λp=>p.1 == k)).bind (λj=>m[j]?.map (·.2))=m.lookup k:=by
 induction m with
 | nil=>simp
 | cons p m ih =>
  obtain⟨q,x⟩:=p;simp only[List.findIdx?_cons,cA];by_cases hk:k=q
  .subst hk;simp
  .have hb:(k == q)=false:=by simpa using hk
   have A : (q == k)=false:=by simpa using λh=>hk h.symm
   simp only[hb,A,<-ih];cases List.findIdx? (λp=>p.1 == k) m<;>simp
def pR{P:Program}{Ρ:TypeId}{kv:κ->Value}[hk:Qx P Ρ kv]{Η:α->Value}{es:Array MapEntry}{m:List (κ×α)}(k:κ)(w:World)(he:es.toList.map (λe=>(e.key,e.val))=m.map (λp=>(kv p.1,Η p.2))) :
  (Instr.findKey Ρ (kv k) es.toList).run P w=.ok ((m.findIdx? (λp=>p.1 == k)).bind λj=>(m[j]?).map λp=>(j,Η p.2)) w:=by
 have I:es.toList.map (·.key)=(m.map (·.1)).map kv:=by
  have:=congrArg (List.map Prod.fst) he
  simpa [cu,Function.comp_def] using this
 rw[hk.find k es.toList (m.map (·.1)) w I,uR];congr 1;cases m.findIdx? (λp=>p.1 == k) with
 | none=>rfl
 | some j =>
  simp only[Option.bind_some];have Q:=congrArg (λl=>l[j]?) he;simp only[List.getElem?_map] at Q;cases hq:es.toList[j]? with
  | none =>
   rw[hq] at Q;cases hm:m[j]? with
   | none=>rfl
   | some p=>rw[hm] at Q;simp at Q
  | some q =>
   rw[hq] at Q;cases hm:m[j]? with
   | none=>rw[hm] at Q;simp at Q
   | some p=>rw[hm] at Q;simp at Q;simp[Q.2]
def iE{m:List (κ×α)}{k:κ}{a:α}(h:(m.map (·.1)).Nodup):((ez m k a).map (·.1)).Nodup:=by
 unfold ez;split
 .rw[cu]
  have:(λp:κ×α=>(if p.1=k then(k,a) else p).1)=(·.1):=by
   funext p;split
   .rename_i h;exact h.symm
   .rfl
  show((m.map ((·.1) ∘ λp=>if p.1=k then(k,a) else p))).Nodup;rw[show((·.1) ∘ λp:κ×α=>if p.1=k then(k,a) else p)=(λp:κ×α=>(if p.1=k then(k,a) else p).1) from rfl,this];exact h
 .rename_i hn;rw[aQ,gL];refine⟨h,by simp,?_⟩;intro x M y U;simp at U;subst U;rintro rfl;apply hn;obtain⟨p,hp,rfl⟩:=H8 M;exact List.any_eq_true.2 ⟨p,hp,by simp⟩
def ln{k:κ}{a:α}:∀{m:List (κ×α)} {j:Nat},(m.map (·.1)).Nodup->m.findIdx? (λp=>p.1 == k)=some j->m.map (λp=>if p.1=k then(k,a) else p)=m.set j (k,a)
 | [],j,_,h=>by simp at h
 | p::m,j,hn,h=>by
  simp only[al,eD] at hn;rw[List.findIdx?_cons] at h;by_cases hk:p.1=k
  .simp[hk] at h;subst h;simp only[al,hk,if_true,fU,List.cons.injEq,true_and];rw[aU (g:=id),List.map_id];intro q hq;have:q.1≠k:=λe=>hn.1 (by rw[hk,<-e];exact O6 hq);simp[this]
  .have hb:(p.1 == k)=false:=by simpa using hk
   simp only[hb] at h;obtain⟨i,hi,rfl⟩:=Option.map_eq_some_iff.1 h;simp only[al,hk,if_false,List.set_cons_succ,List.cons.injEq,true_and];exact ln hn.2 hi
def zH{k:κ}:∀{m:List (κ×α)} {j:Nat},(m.map (·.1)).Nodup->m.findIdx? (λp=>p.1 == k)=some j->I1 m k=m.eraseIdx j
 | [],j,_,h=>by simp at h
 | p::m,j,hn,h=>by
  simp only[al,eD] at hn;rw[List.findIdx?_cons] at h;by_cases hk:p.1=k
  .simp[hk] at h;subst h;simp only[I1,List.filter_cons,hk,beq_self_eq_true,Bool.not_true,em,if_false,List.eraseIdx_zero,List.tail_cons];apply List.filter_eq_self.2;intro q hq;have:q.1≠k:=λe=>hn.1 (by rw[hk,<-e];exact O6 hq);simp[this]
  .have hb:(p.1 == k)=false:=by simpa using hk
   simp only[hb] at h;obtain⟨i,hi,rfl⟩:=Option.map_eq_some_iff.1 h;have ih:=zH hn.2 hi;simp only[I1,List.filter_cons,hb,Bool.not_false,if_true,List.eraseIdx_cons_succ,List.cons.injEq,true_and];exact ih
def ot{m:List (κ×α)}{k q:κ}{a:α}:(ez m k a).lookup q=if q=k then some a else m.lookup q:=by
 unfold ez;split
 .rename_i h;induction m with
  | nil=>simp at h
  | cons p m ih =>
   obtain⟨Δ,x⟩:=p;simp only[al,cA];by_cases hr:Δ=k
   .subst hr;simp only[if_true,cA];by_cases hq:q=Δ
    .subst hq;simp
    .have hb:(q == Δ)=false:=by simpa using hq
     simp only[hb,hq,if_false];by_cases hm:m.any (λp=>p.1 == Δ)=true
     .have:=ih hm;simp only[hq,if_false] at this;exact this
     .rw[aU (g:=id),List.map_id];intro p hp;have:p.1≠Δ:=λe=>hm (List.any_eq_true.2 ⟨p,hp,by simp[e]⟩);simp[this]
   .have hm:m.any (λp=>p.1 == k)=true:=by
     simp only[List.any_cons] at h;have:(Δ == k)=false:=by simpa using hr
     simpa [this] using h
    simp only[hr,if_false,cA];by_cases hq:q=Δ
    .subst hq;simp[hr]
    .have hb:(q == Δ)=false:=by simpa using hq
     simp only[hb];exact ih hm
 .rename_i h;rw[List.lookup_append];by_cases hq:q=k
  .subst hq
   have:m.lookup q=none:=by
    rw[<-oO]
    have:m.findIdx? (λp=>p.1 == q)=none:=by
     rw[List.findIdx?_eq_none_iff];intro p hp;simp only[Bool.not_eq_true] at h;have:=List.any_eq_false.1 h p hp
     simpa using this
    simp[this]
   simp[this]
  .have hb:(q == k)=false:=by simpa using hq
   simp[cA,hb,hq]
def BK{m:List (κ×α)}{k q:κ}:(I1 m k).lookup q=if q=k then none else m.lookup q:=by
 induction m with
 | nil=>simp[I1]
 | cons p m ih =>
  obtain⟨Δ,x⟩:=p;simp only[I1,List.filter_cons] at ih ⊢;by_cases hr:Δ=k
  .subst hr;simp only[beq_self_eq_true,Bool.not_true,em,if_false,ih,cA];by_cases hq:q=Δ
   .subst hq;simp
   .have hb:(q == Δ)=false:=by simpa using hq
    simp[hb,hq]
  .have hb:(Δ == k)=false:=by simpa using hr
   simp only[hb,Bool.not_false,if_true,cA];by_cases hq:q=Δ
   .subst hq;simp[hr]
   .have A:(q == Δ)=false:=by simpa using hq
    simp only[A];exact ih
def bR{m:List (κ×α)}{k:κ}{a:α}(h:m.lookup k=some a):(k,a)∈m:=by
 induction m with
 | nil=>cases h
 | cons p m ih =>
  obtain⟨q,x⟩:=p;rw[cA] at h;by_cases hk:k=q
  .subst hk;simp at h;subst h;exact au ..
  .have hb:(k == q)=false:=by simpa using hk
   simp only[hb] at h;exact az _ (ih h)
def fo{m:List (κ×α)}(hn:(m.map (·.1)).Nodup){k:κ}{a:α}(h:(k,a)∈m):m.lookup k=some a:=by
 induction m with
 | nil=>cases h
 | cons p m ih =>
  obtain⟨q,x⟩:=p;simp only[al,eD] at hn;rw[cA];rcases L7 h with e|h'
  .simp only[Prod.mk.injEq] at e;obtain⟨rfl,rfl⟩:=e;simp
  .have:k≠q:=λe=>hn.1 (by rw[<-e];exact O6 (f:=(·.1)) h');have hb:(k == q)=false:=by simpa using this
   simp only[hb];exact ih hn.2 h'
end maps
section ops
variable {P:Program}{L:Ι}{env:Env}{ty:TypeId}{κ α:Type}
class PD (P:Program) (an:Nat) (Ρ ζ:outParam Nat) (z:outParam Value):Prop where
 under:P.underlying an=some (.map Ρ ζ)
 zero:(P.info? ζ).map (·.zero)=some (some z)
def Ef.c8{t Ρ ζ:TypeId}{z:Value}{o:Option Operand}[ht:PD P t Ρ ζ z](kv:κ->Value)(Η:α->Value)(ho:o=none\/∃x k n,o=some x/\bG env x=some (.int k n)/\0<=n):Ef P L env (.makeMap t o) ty (λv Ε=>∃b,v=.map (some b)/\Ε = ew kv Η b []::L) :=
 Ef.val (λθ R a w ea s A pos af g=>⟨_,w.alloc (.map #[] 0),_,by
  rcases ho with rfl|⟨x,k,n,rfl,M,hn⟩
  .simp[execOp,Instr.makeMap]
  .simp[execOp,Instr.makeMap,aI ea M,run_underlying ht.under,asInt,asIntOf],⟨_,rfl,rfl⟩,Sat.c8 s.alloc cg cg cg cg cg⟩)
variable [DecidableEq κ]
def Z.w7{t:TypeId}{x y:Operand}{b Ρ ζ:Nat}{z a2:Value}{kv:κ->Value}{Η:α->Value}{m:List (κ×α)}{G1:Ι}{k:κ}[ht:PD P t Ρ ζ z][hk:Qx P Ρ kv][hp:Qg L b κ α kv Η m G1](M:bG env x=some (.map (some b)))(U:bG env y=some a2)[a4:RX kv a2 k](ok:Bool) :
  Z P L env (.lookup t x y ok) ty (if ok then .tuple #[((m.lookup k).map Η).getD z,.bool (m.lookup k).isSome] else((m.lookup k).map Η).getD z) :=
 Z.mk (λθ R _ w ea s _ _ _ _=>by
  obtain rfl:=a4.eq;obtain⟨es,A,e1,e2,e3,e4,e5,s2⟩:=(s.perm (hp.perm.append_right R)).SK;have hb:=s2.M8;have hf:=pR (P:=P) (Ρ:=Ρ) k w e1;have J:(getObj b).run P w=.ok (.map es A) w:=by simp[getObj,Sem.run,hb]
  have h3:=ht.zero;rw[<-oO];cases hi:P.info? ζ with
  | none=>rw[hi] at h3;cases h3
  | some i =>
   rw[hi] at h3;simp at h3;cases hj:m.findIdx? (λp=>p.1 == k) with
   | none =>
    rw[hj] at hf;simp[execOp,aI ea M,aI ea U,Instr.lookup,run_underlying ht.under,J,hk.check,hf,zeroValue,typeInfo,hi,h3]
   | some j =>
    have a3:=(List.findIdx?_eq_some_iff_getElem.1 hj).1;rw[hj] at hf;simp[List.getElem?_eq_getElem a3] at hf;simp[execOp,aI ea M,aI ea U,Instr.lookup,run_underlying ht.under,J,hk.check,hf,List.getElem?_eq_getElem a3])
def Z.j6{t:TypeId}{x y:Operand}{b Ρ ζ:Nat}{z A:Value}{kv:κ->Value}{Η:α->Value}{m:List (κ×α)}{G1:Ι}{k:κ}[ht:PD P t Ρ ζ z][hk:Qx P Ρ kv][hp:Qg L b κ α kv Η m G1](M:bG env x=some (.map (some b)))(U:bG env y=some A)[J:RX kv A k] :
  Z P L env (.lookup t x y false) ty (((m.lookup k).map Η).getD z):=by
 have:=Z.w7 (P:=P) (L:=L) (ty:=ty) (t:=t) M U false
 simpa using this
theorem Z.a8{t:TypeId}{x y:Operand}{b Ρ ζ:Nat}{z A:Value}{kv:κ->Value}{Η:α->Value}{m:List (κ×α)}{G1:Ι}{k:κ}[ht:PD P t Ρ ζ z][hk:Qx P Ρ kv][hp:Qg L b κ α kv Η m G1](M:bG env x=some (.map (some b)))(U:bG env y=some A)[J:RX kv A k] :
  Z P L env (.lookup t x y true) ty (.tuple #[((m.lookup k).map Η).getD z,.bool (m.lookup k).isSome]):=by
 have:=Z.w7 (P:=P) (L:=L) (ty:=ty) (t:=t) M U true
 simpa using this
def Ef.d9{t:TypeId}{x y z' : Operand}{b Ρ ζ:Nat}{z v a4:Value}{kv:κ->Value}{Η:α->Value}{m:List (κ×α)}{G1:Ι}{k:κ}(e:α)[ht:PD P t Ρ ζ z][hk:Qx P Ρ kv][hp:Qg L b κ α kv Η m G1](M:bG env x=some (.map (some b)))(U:bG env y=some a4)(hz:bG env z' = some v)[b2:RX kv a4 k](hv:v=Η e)
  : Ef P L env (.mapUpdate t x y z') ty (λ_ Ε=>Ε = ew kv Η b (ez m k e)::G1) :=
 Ef.skip (λθ R a w ea s b5 pos af g=>by
  subst hv;obtain rfl:=b2.eq;obtain⟨es,A,e1,e2,e3,e4,e5,s2⟩:=(s.perm (hp.perm.append_right R)).SK;have hb:=s2.M8;have hf:=pR (P:=P) (Ρ:=Ρ) k w e1;have a2:(getObj b).run P w=.ok (.map es A) w:=by simp[getObj,Sem.run,hb]
  have b1:=iE (k:=k) (a:=e) e2;cases hj:m.findIdx? (λp=>p.1 == k) with
  | none =>
   rw[hj] at hf;simp only[Option.bind_none] at hf
   have b3:m.any (λp=>p.1 == k)=false:=by
    rw[List.findIdx?_eq_none_iff] at hj;simpa using hj
   refine⟨_,_,?_,rfl,Sat.c8 (s2.Sm (o':=.map (es.push { key:=kv k,val:=Η e,born:=A }) (A+1))) ?_ b1 ?_ ?_ ?_⟩
   .simp[execOp,aI ea M,aI ea U,aI ea hz,Instr.mapUpdate,run_underlying ht.under,a2,hk.check,hf,iD hb]
   .simp[e1,ez,b3]
   .simp;omega
   .intro x M;rcases Array.mem_push.1 M with M|rfl
    .have:=e4 x M;omega
    .simp
   .simp only[Array.toList_push,aQ,al,bu];rw[gL];refine⟨e5,by simp,?_⟩;intro x M y U;simp at U;subst U;obtain⟨q,hq,rfl⟩:=H8 M;have:=e4 q (by simpa using hq)
    omega
  | some j =>
   have a5:m.any (λp=>p.1 == k)=true:=by
    obtain⟨a7,I,_⟩:=List.findIdx?_eq_some_iff_getElem.1 hj;exact List.any_eq_true.2 ⟨m[j],cY a7,I⟩
   have a9:=ln (a:=e) e2 hj;obtain⟨J,b0,_⟩:=List.findIdx?_eq_some_iff_getElem.1 hj;rw[hj] at hf;simp[List.getElem?_eq_getElem J] at hf
   have b6:es.size=m.length:=by
    have:=congrArg List.length e1
    simpa using this
   have a6:((es[j]?).map (·.key)).getD (kv k)=kv k:=by
    have h5:=congrArg (λl=>l[j]?) e1;simp only[List.getElem?_map,List.getElem?_eq_getElem J,Array.getElem?_toList] at h5;rw[Array.getElem?_eq_getElem D] at h5 ⊢;simp at h5 ⊢;rw[h5.1];simp at b0;rw[b0]
   have b4:(Instr.keyThatStays (((es[j]?).map (·.key)).getD (kv k)) (kv k)).run P w=.ok (kv k) w:=by
    rw[a6];simp[Instr.keyThatStays,hk.bits]
   refine⟨_,_,?_,rfl,Sat.c8 (s2.Sm (o':=.map (es.modify j λx=>{ x with key:=kv k,val:=Η e }) A)) ?_ b1 ?_ ?_ ?_⟩
   .simp[execOp,aI ea M,aI ea U,aI ea hz,Instr.mapUpdate,run_underlying ht.under,a2,hk.check,hf,b4,iD hb]
   .simp only[ez,a5,if_true,a9];rw[Array.toList_modify];apply gM;intro i;have h5:=congrArg (λl=>l[i]?) e1;simp only[List.getElem?_map] at h5;simp only[List.getElem?_map,List.getElem?_modify,List.getElem?_set];by_cases a3:j=i
    .subst a3;have a7:j<es.toList.length:=by simp;omega
     simp[J,List.getElem?_eq_getElem a7]
    .simp only[a3,if_false];cases hq:es.toList[i]? with
     | none=>rw[hq] at h5;simpa using h5
     | some q=>rw[hq] at h5;simpa using h5
   .simpa using e3
   .intro x M;obtain⟨i,hi,rfl⟩:=Array.mem_iff_getElem.1 M;rw[Array.getElem_modify];have h6:es[i]'(by simpa using hi)∈es:=Array.getElem_mem _;split
    .exact e4 (es[i]'(by simpa using hi)) h6
    .exact e4 _ h6
   .have:(es.modify j λx=>{ x with key:=kv k,val:=Η e }).toList.map (·.born)=es.toList.map (·.born):=by
     rw[Array.toList_modify];apply gM;intro i;simp only[List.getElem?_map,List.getElem?_modify];by_cases a3:j=i
     .subst a3;cases es.toList[j]?<;>simp
     .simp[a3]
    rw[this];exact e5)
def Ef.m7{t kt:TypeId}{x y:Operand}{b Ρ ζ:Nat}{z a2:Value}{kv:κ->Value}{Η:α->Value}{m:List (κ×α)}{G1:Ι}{k:κ}[ht:PD P t Ρ ζ z][hk:Qx P Ρ kv][hp:Qg L b κ α kv Η m G1](M:bG env x=some (.map (some b)))(U:bG env y=some a2)[a9:RX kv a2 k]
  : Ef P L env (.call { callee:=.builtin .delete,args:=#[x,y],argTypes:=#[t,kt] }) ty (λ_ Ε=>Ε = ew kv Η b (I1 m k)::G1) :=
 Ef.val (λθ R a w ea s b0 pos af g=>by
  obtain rfl:=a9.eq;obtain⟨es,A,e1,e2,e3,e4,e5,s2⟩:=(s.perm (hp.perm.append_right R)).SK;have hb:=s2.M8;have hf:=pR (P:=P) (Ρ:=Ρ) k w e1;have J:(getObj b).run P w=.ok (.map es A) w:=by simp[getObj,Sem.run,hb]
  have a7:((I1 m k).map (·.1)).Nodup:=e2.sublist ((List.filter_sublist).map _)
  have b2:es.size=m.length:=by
   have:=congrArg List.length e1
   simpa using this
  cases hj:m.findIdx? (λp=>p.1 == k) with
  | none =>
   rw[hj] at hf;simp only[Option.bind_none] at hf;have a4:=List.findIdx?_eq_none_iff.1 hj;have he:I1 m k=m:=List.filter_eq_self.2 λp hp=>by simp[a4 p hp]
   refine⟨.tuple #[],_,_,?_,rfl,Sat.c8 (s2.Sm (o':=.map es A)) (by rw[he];exact e1) a7 e3 e4 e5⟩;simp[execOp,resolve,invoke,builtin,aI ea M,aI ea U,Builtin.delete_,run_underlying ht.under,J,hk.check,hf,iD hb]
  | some j =>
   have a5:=zH e2 hj;obtain⟨a6,b1,_⟩:=List.findIdx?_eq_some_iff_getElem.1 hj;rw[hj] at hf;simp[List.getElem?_eq_getElem a6] at hf
   have a3:(es.eraseIdxIfInBounds j).toList=es.toList.eraseIdx j:=by
    simp[Array.eraseIdxIfInBounds,show j<es.size by omega]
   refine⟨.tuple #[],_,_,?_,rfl,Sat.c8 (s2.Sm (o':=.map (es.eraseIdxIfInBounds j) A)) ?_ a7 ?_ ?_ ?_⟩
   .simp[execOp,resolve,invoke,builtin,aI ea M,aI ea U,Builtin.delete_,run_underlying ht.under,J,hk.check,hf,iD hb]
   .rw[a3,a5,jN,jN,e1]
   .have h7:(es.eraseIdxIfInBounds j).size=(es.toList.eraseIdx j).length:=by rw[<-a3,dY]
    have h8:(es.toList.eraseIdx j).length<=es.toList.length:=List.length_eraseIdx_le es.toList j;have h9:es.toList.length=es.size:=dY;omega
   .intro x M;have:x∈es.toList.eraseIdx j:=by rw[<-a3];exact Array.mem_toList_iff.2 M
    exact e4 x (by simpa using List.mem_of_mem_eraseIdx this)
   .rw[a3,jN];exact e5.sublist (List.eraseIdx_sublist _ _))
end ops
section ranges
variable {P:Program}{L:Ι}{env:Env}{ty:TypeId}{κ α:Type}{kv:κ->Value}{Η:α->Value}
def Sat.VW{θ:Th}{b Δ:Nat}{m done:List (κ×α)}{L:Ι}{w:World}(s:Sat θ (fZ kv Η b m Δ done::L) w) :
  ∃x:Array MapEntry×Nat×Array Nat×List Nat,Vk kv Η m done x/\Sat θ (sh b (.map x.1 x.2.1)::sh Δ (.mapIter (some b) x.2.1 x.2.2.1 x.2.1)::L) w:=by
 obtain⟨x,s⟩:=s.Te;have s2:=s.Qd;simp only[aq,av] at s2;exact⟨x,s2.Td,s2.tail⟩
def Sat.f7{θ:Th}{b Δ:Nat}{m done:List (κ×α)}{L:Ι}{w:World}(x:Array MapEntry×Nat×Array Nat×List Nat)(M:Vk kv Η m done x)(s:Sat θ (sh b (.map x.1 x.2.1)::sh Δ (.mapIter (some b) x.2.1 x.2.2.1 x.2.1)::L) w) :
  Sat θ (fZ kv Η b m Δ done::L) w:=Sat.d8 x (Sat.a8 (Φ:=[ee (Vk kv Η m done x),sh b (.map x.1 x.2.1),sh Δ (.mapIter (some b) x.2.1 x.2.2.1 x.2.1)]) (s.UH M))
def Ef.j5{t Ρ ζ:TypeId}{z:Value}{x:Operand}{b:Nat}{m:List (κ×α)}{G1:Ι}[ht:PD P t Ρ ζ z][hp:Qg L b κ α kv Η m G1](M:bG env x=some (.map (some b))) :
  Ef P L env (.range t x) ty (λv Ε=>∃Δ,v=ay Δ/\Ε = fZ kv Η b m Δ []::G1) :=
 Ef.val (λθ R a w ea s a2 pos af g=>by
  obtain⟨es,A,e1,e2,e3,e4,e5,s2⟩:=(s.perm (hp.perm.append_right R)).SK;have hb:=s2.M8;have J:(getObj b).run P w=.ok (.map es A) w:=by simp[getObj,Sem.run,hb]
  refine⟨_,w.alloc (.mapIter (some b) A #[] A),_,?_,⟨w.heap.size,rfl,rfl⟩,?_⟩
  .simp[execOp,Instr.range,aI ea M,run_underlying ht.under,J]
  .refine Sat.f7 (es,A,#[],[]) ⟨e1,e2,e3,e4,e5,by simp,by simp,by simp,by simp⟩ ?_;exact(Sat.alloc s2).perm (List.Perm.swap _ _ _))
def xg{n:Nat}{js:List Nat}(I:js.Nodup)(Q:∀j∈js,j<n)(h3:∀j,j<n->j∈js):js.Perm (List.range n) :=
 (List.perm_ext_iff_of_nodup I List.nodup_range).2 λj=>⟨λh=>List.mem_range.2 (Q j h),λh=>h3 j (List.mem_range.1 h)⟩
def ui{β:Type}(m:List β):(List.range m.length).filterMap (λj=>m[j]?)=m:=by
 induction m with
 | nil=>rfl
 | cons x m ih =>
  rw[aL,List.range_succ_eq_map];simp only[List.filterMap_cons,List.getElem?_cons_zero,List.filterMap_map,Function.comp_def,List.getElem?_cons_succ,Nat.succ_eq_add_one];rw[ih]
def qh{β:Type}{m:List β}:∀{js:List Nat},(∀j∈js,j<m.length)->(js.filterMap (λj=>m[j]?)).length=js.length
 | [],_=>rfl
 | j::js,h=>by
  rw[List.filterMap_cons,List.getElem?_eq_getElem (h j (au ..))];simp only[aL,qh λi hi=>h i (az _ hi)]
def wu:∀{n:Nat} {js:List Nat},js.Nodup->(∀j∈js,j<n)->js.length<=n
 | 0,js,_,Q=>by
  cases js with
  | nil=>simp
  | cons j js=>exact iJ (Q j (au ..)) D
 | n+1,js,I,Q=>by
  have ih:=wu (n:=n) (js:=js.erase n) (I.erase n) (λj hj=>by
   have h3:=(List.Nodup.mem_erase_iff I).1 hj;have:=Q j h3.2
   omega)
  have:=List.length_erase (a:=n) (l:=js)
  split at this<;>omega
def Ef.j8{it:Operand}{b Δ:Nat}{m done:List (κ×α)}{G1:Ι}[hp:UL L Δ κ α kv Η b m done G1](M:bG env it=some (ay Δ)) :
  Ef P L env (.next it false) ty (λv Ε=>(v=.tuple #[.bool false]/\Ε = fZ kv Η b m Δ done::G1/\done.Perm m)\/(∃p,v=.tuple #[.bool true,kv p.1,Η p.2]/\Ε = fZ kv Η b m Δ (done++[p])::G1/\p∈m/\p∉done/\done.length<m.length)) :=
 Ef.val (λθ R a w ea s b9 pos af g=>by
  obtain⟨⟨es,A,seen,js⟩,⟨e1,e2,e3,e4,e5,j1,j2,j3,j4⟩,s2⟩:=(s.perm (hp.perm.append_right R)).VW;dsimp only at e1 e3 e4 e5 j1 j2 j3 j4 s2;have hb:=s2.M8;have hr:=(s2.perm (List.Perm.swap _ _ _)).M8
  have c1:es.size=m.length:=by
   have:=congrArg List.length e1
   simpa using this
  have a3:∀j,j∈js->∃e,es[j]? = some e/\e.born∈seen:=by
   intro j hj;have c0:=j2 j hj;refine⟨es[j]'(by omega),Array.getElem?_eq_getElem D,?_⟩
   have:(es[j]'(by omega)).born∈seen.toList:=by
    rw[j4];exact List.mem_filterMap.2 ⟨j,hj,by simp[Array.getElem?_eq_getElem (D:j<es.size)]⟩
   simpa using this
  have a4:∀x∈seen,∃j∈js,∃e,es[j]? = some e/\e.born=x:=by
   intro x M;have:x∈seen.toList:=by simpa using M
   rw[j4] at this;obtain⟨j,hj,b4⟩:=List.mem_filterMap.1 this;obtain⟨e,he,a5⟩:=Option.map_eq_some_iff.1 b4;exact⟨j,hj,e,he,a5⟩
  have a9:∀(i j:Nat) (hi:i<es.size) (hj:j<es.size),es[i].born=es[j].born->i=j:=by
   intro i j hi hj he;have I:(es.toList.map (·.born))[i]'(by simpa using hi)=(es.toList.map (·.born))[j]'(by simpa using hj):=by simpa using he
   exact(List.getElem_inj e5).1 I
  have b6:∀(j:Nat) (hj:j<es.size),es[j].key=kv (m[j]'(by omega)).1/\es[j].val=Η (m[j]'(by omega)).2:=by
   intro j hj;have h5:=congrArg (λl=>l[j]?) e1;simp only[List.getElem?_map,Array.getElem?_toList,Array.getElem?_eq_getElem hj,List.getElem?_eq_getElem (D:j<m.length)] at h5;simpa using h5
  rcases run_next_at (P:=P) w ty Δ b A A seen es A hr hb (λx M=>e4 x (by simpa using M)) (ax _) with⟨h0,a2⟩|⟨e,he,w1,b8,a2⟩
  .refine⟨_,w,_,?_,.inl ⟨rfl,rfl,?_⟩,Sat.f7 (es,A,seen,js) ⟨e1,e2,e3,e4,e5,j1,j2,j3,j4⟩ s2⟩
   .simp[execOp,aI ea M,a2]
   .have a6:∀j,j<m.length->j∈js:=by
     intro j hj
     have T:es[j]'(by omega)∉leftOf es seen:=by
      have:leftOf es seen=#[]:=Array.eq_empty_of_size_eq_zero h0;rw[this];simp
     simp only[leftOf,Array.mem_filter,not_and] at T;have I:=T (Array.getElem_mem _);have Q:(es[j]'(by omega)).born∈seen:=by simpa using I
     obtain⟨i,hi,e,he,a5⟩:=a4 _ Q;have J:=j2 i hi;rw[Array.getElem?_eq_getElem D] at he;simp only[Option.some.injEq] at he;rw[<-he] at a5;rw[<-a9 i j D D a5];exact hi
    rw[j3];exact((xg j1 j2 a6).filterMap _).trans (by rw[ui])
  .have b2 : e∈es/\e.born∉seen:=by
    have:e∈leftOf es seen:=by simpa using he
    simp only[leftOf,Array.mem_filter] at this;exact⟨this.1,by simpa using this.2⟩
   obtain⟨j,hj,rfl⟩:=Array.mem_iff_getElem.1 b2.1
   have b0:j∉js:=by
    intro b5;obtain⟨e,I,Q⟩:=a3 j b5;rw[Array.getElem?_eq_getElem hj] at I;simp only[Option.some.injEq] at I;rw[<-I] at Q;exact b2.2 Q
   have b3:j<m.length:=D
   have b7:m[j]∉done:=by
    rw[j3];intro b1;obtain⟨i,hi,a7⟩:=List.mem_filterMap.1 b1;have J:=j2 i hi;rw[List.getElem?_eq_getElem J] at a7;simp only[Option.some.injEq] at a7;have I:(m.map (·.1))[i]'(by simpa using J)=(m.map (·.1))[j]'(by simpa using b3):=by simp[a7]
    have:=(List.getElem_inj e2).1 I
    exact b0 (this▸hi)
   have hk:=b6 j hj;refine⟨_,ChangeMaps.setBlock w1 Δ (.mapIter (some b) A (seen.push es[j].born) A),_,?_,.inr ⟨m[j],rfl,rfl,cY _,b7,?_⟩,Sat.f7 (es,A,seen.push es[j].born,js++[j]) ⟨e1,e2,e3,e4,e5,?_,?_,?_,?_⟩ ?_⟩
   .rw[<-hk.1,<-hk.2];simp[execOp,aI ea M,a2]
   .rw[j3,qh j2]
    have:=wu (n:=m.length) (js:=js++[j]) (by
     rw[gL];exact⟨j1,by simp,by intro x M y U;simp at U;subst U;rintro rfl;exact b0 M⟩) (by
     intro i hi;rcases J4 hi with h|h
     .exact j2 i h
     .simp at h;omega)
    simp at this;omega
   .show(js++[j]).Nodup;rw[gL];exact⟨j1,by simp,by intro x M y U;simp at U;subst U;rintro rfl;exact b0 M⟩
   .intro i hi;rcases J4 hi with h|h
    .exact j2 i h
    .simp at h;omega
   .simp[j3,List.filterMap_append,List.getElem?_eq_getElem b3]
   .simp[j4,List.filterMap_append,Array.getElem?_eq_getElem hj]
   ··have s3:Sat θ (sh Δ (.mapIter (some b) A seen A)::sh b (.map es A)::(G1++R)) w1:=by
      rcases b8 with rfl|rfl
      .exact s2.perm (List.Perm.swap _ _ _)
      .exact(Sat.drew s2).perm (List.Perm.swap _ _ _)
     exact(Sat.Sm (o':=.mapIter (some b) A (seen.push es[j].born) A) s3).perm (List.Perm.swap _ _ _))
def Z.j7{it:Operand}{b Δ:Nat}{m done J : List (κ×α)}{p:κ×α}{G1:Ι}[hp:UL L Δ κ α kv Η b m J G1](hd:J = done++[p])(M:bG env it=some (ay Δ)) :
  Z P L env (.entry it) ty (.tuple #[kv p.1,Η p.2]) :=
 Z.mk (λθ R _ w ea s _ _ _ _=>by
  subst hd;obtain⟨⟨es,A,seen,js⟩,⟨e1,e2,e3,e4,e5,j1,j2,j3,j4⟩,s2⟩:=(s.perm (hp.perm.append_right R)).VW;dsimp only at e1 e3 e4 e5 j1 j2 j3 j4 s2;have hb:=s2.M8;have hr:=(s2.perm (List.Perm.swap _ _ _)).M8
  have a7:es.size=m.length:=by
   have:=congrArg List.length e1
   simpa using this
  rcases List.eq_nil_or_concat js with rfl|⟨a6,j,rfl⟩
  .simp at j3
  .have a2:j<m.length:=j2 j cg;have hj:j<es.size:=D;rw[List.concat_eq_append] at j3 j4;simp[List.filterMap_append,List.getElem?_eq_getElem a2] at j3;simp[List.filterMap_append,Array.getElem?_eq_getElem hj] at j4;have a4:p=m[j]:=j3.2
   have a3:es[j].key=kv p.1/\es[j].val=Η p.2:=by
    have h5:=congrArg (λl=>l[j]?) e1;simp only[List.getElem?_map,Array.getElem?_toList,Array.getElem?_eq_getElem hj,List.getElem?_eq_getElem a2] at h5;rw[a4];simpa using h5
   have a5:seen=(a6.filterMap (λj=>(es[j]?).map (·.born))).toArray.push es[j].born:=by
    apply Array.ext';simp[j4]
   rw[a5] at hr;have:=run_entry_at (P:=P) w Δ b A _ es A es[j] hr hb cg e5
   rw[a3.1,a3.2] at this;simp[execOp,aI ea M,this])
def E.j9{b Δ:Nat}{m done:List (κ×α)}:E (fZ kv Η b m Δ done::L) (ew kv Η b m::L):=λθ R w s=>by
 obtain⟨⟨es,A,seen,js⟩,⟨e1,e2,e3,e4,e5,_⟩,s2⟩:=Sat.VW s;exact Sat.c8 ((s2.perm (List.Perm.swap _ _ _)).tail) e1 e2 e3 e4 e5
