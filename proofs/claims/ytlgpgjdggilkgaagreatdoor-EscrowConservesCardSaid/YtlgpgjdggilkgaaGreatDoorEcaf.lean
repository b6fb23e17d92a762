/- Maps with keys of any type that is compared by value, ranges over maps, structs of integers compared. Holds for any program whose type tables are as the classes say. -/
import Derived.Test.YtlgpgjdggilkgaaGreatDoorEcae
import Derived.Maps.RangeRun
import Derived.Laws.StructEq
set_option linter.all false
namespace Go.V
class TyIS (P:Program) (T:Nat) (n:outParam Nat):Prop where
 under:P.underlying T=some (.struct (P.fieldsOf T))
 free:P.stoodInHeld T=false
 guard:P.eqGuardType P.depth T=false
 flds : (P.fieldsOf T).toList.map (fun f => (f.name == "_", f.offset, P.underlying f.type)) = (List.range n).map fun i => (false, i, some (.int .i64))
 one:∀f∈(P.fieldsOf T).toList,∀w,(isAgg f.type).run P w=.ok false w
theorem TyIS.of{P:Program}{T n:Nat}(h1:P.underlying T=some (.struct (P.fieldsOf T)))(h2:P.stoodInHeld T=false)(h3:P.eqGuardType P.depth T=false)
  (h4 : (P.fieldsOf T).toList.map (fun f => (f.name == "_", f.offset, P.underlying f.type)) = (List.range n).map fun i => (false, i, some (.int .i64)))
  (_h5:(P.fieldsOf T).toList.all (fun f=>(P.info? f.type).isSome)=true):TyIS P T n :=
 ⟨h1,h2,h3,h4,fun f hf w=>by
  have h6 : (f.name == "_", f.offset, P.underlying f.type) ∈ (List.range n).map fun i => (false, i, some (TypeDesc.int .i64)) := by rw [← h4]; exact alStd0List_mem_map_of_mem hf
  obtain⟨i,_,hi⟩:=List.mem_map.1 h6;simp only[Prod.mk.injEq] at hi;have hu:=hi.2.2.symm;simp[isAgg,run_underlying hu]⟩
def iK{P:Program}{T:Nat}{cs:Array Value}{i:Nat}{v:Value}{w:World}(h1:∀w,(isAgg T).run P w=.ok false w)(h:cs[i]? = some v):(part T cs i).run P w=.ok v w:=by
 simp[part,h1 w,h]
def eqFields_int {P : Program} {w : World} {d : Nat} {xs ys : List Int} : ∀ (fs : List Field) (i : Nat), fs.map (fun f => (f.name == "_", f.offset, P.underlying f.type)) = (List.range' i fs.length).map (fun i => (false, i, some (TypeDesc.int .i64))) →
  (∀f∈fs,∀w,(isAgg f.type).run P w=.ok false w)→i+fs.length=xs.length→xs.length=ys.length →
  (Op.eqFields (d+1) (xs.map (Value.int .i64)).toArray (ys.map (Value.int .i64)).toArray fs).run P w=.ok (decide (xs.drop i=ys.drop i)) w:=by
 intro fs;induction fs with
 | nil =>
  intro i _ _ h2 h3;simp only[bz] at h2;rw[bQ ab,bQ ab];simp[Op.eqFields]
 | cons f fs ih =>
  intro i h1 ho h2 h3;simp only [aM] at h2;simp only [aF,aM,List.range'_succ,List.cons.injEq,Prod.mk.injEq] at h1;obtain ⟨⟨hn,hoff,hu⟩,hr⟩:=h1;have hn' : f.name ≠ "_" := by simpa using hn
  have hix:i<xs.length:=ab;have hiy:i<ys.length:=ab;have hf:=ho f (av ..);have e1:(xs.map (Value.int .i64)).toArray[i]? = some (ac xs[i]):=by simp[hix]
  have e2:(ys.map (Value.int .i64)).toArray[i]? = some (ac ys[i]):=by simp[hiy]
  have ih':=ih (i+1) hr (fun g hg=>ho g (au _ hg)) ab h3;simp only[Op.eqFields,if_pos hn',hoff,Sem.run_bind,iK hf e1,iK hf e2,Result.andThen_ok,run_equalIn_int w d f.type .i64 .i64 xs[i] ys[i] hu];rw[bV hix,bV hiy];by_cases he:xs[i]=ys[i]
  ·simp only[he,beq_self_eq_true,Bool.not_true,fY,if_false,ih',List.cons.injEq,true_and]
  ·have hb:(xs[i] == ys[i])=false:=by simpa using he
   simp only[hb,Bool.not_false,if_true,Sem.run_pure,List.cons.injEq,he,false_and,decide_false]
def mS{P:Program}{T n:Nat}[h:TyIS P T n]{w:World}{d:Nat}{xs ys:List Int}(hx:xs.length=n)(hy:ys.length=n) :
  (Op.equalIn (d+2) T (.agg (xs.map (Value.int .i64)).toArray) (.agg (ys.map (Value.int .i64)).toArray)).run P w=.ok (decide (xs=ys)) w:=by
 rw[run_equalIn_struct w (d+1) T _ _ h.under h.free]
 have hl:(P.fieldsOf T).toList.length=n:=by
  have:=congrArg List.length h.flds
  simpa using this
 have:=eqFields_int (P:=P) (w:=w) (d:=d) (xs:=xs) (ys:=ys) (P.fieldsOf T).toList 0 (by rw[hl,←List.range_eq_range'];exact h.flds) h.one ab ab
 simpa using this
class IntsOf (cs:LV) (xs:outParam (List Int)):Prop where
 eq:cs=xs.map (Value.int .i64)
instance:IntsOf [] []:=⟨rfl⟩
instance (a:Int)(cs:LV)(xs:List Int)[h:IntsOf cs xs]:IntsOf (ac a::cs) (a::xs):=⟨by rw[h.eq];rfl⟩
section
variable {P:Program}{L:LH}{env:Env}{ty:TypeId}
def Ev.w5{t yt:TypeId}{x y:Operand}{n:Nat}[h:TyIS P t n]{cs ds:LV}(hx:evE env x=some (.agg cs.toArray))(hy:evE env y=some (.agg ds.toArray)){xs ys:List Int}[hc:IntsOf cs xs][hd:IntsOf ds ys](hl:xs.length=n)(a0 : ys.length=n) :
  Ev P L env (.binOp .eql t x y yt) ty (.bool (dB (xs=ys))) :=
 Ev.mk (fun θ R _ w ea s _ _ _ _=>by
  rw[hc.eq] at hx;rw[hd.eq] at hy;have h1:=mS (P:=P) (T:=t) (w:=w) (d:=9998) hl a0;simp[execOp,aL ea hx,aL ea hy,run_eqGuard_agg w .eql t x y _ _ h.guard,run_eql_struct,h1,dK])
def Ev.w0{t yt:TypeId}{x y:Operand}{n:Nat}[h:TyIS P t n]{cs ds:LV}(hx:evE env x=some (.agg cs.toArray))(hy:evE env y=some (.agg ds.toArray)){xs ys:List Int}[hc:IntsOf cs xs][hd:IntsOf ds ys](hl:xs.length=n)(a0 : ys.length=n) :
  Ev P L env (.binOp .neq t x y yt) ty (.bool (dB (¬xs=ys))) :=
 Ev.mk (fun θ R _ w ea s _ _ _ _=>by
  rw[hc.eq] at hx;rw[hd.eq] at hy;have h1:=mS (P:=P) (T:=t) (w:=w) (d:=9998) hl a0;simp[execOp,aL ea hx,aL ea hy,run_eqGuard_agg w .neq t x y _ _ h.guard,run_neq_struct,h1,dK])
end
class KeyT (P:Program) (K:TypeId) {κ:Type} [DecidableEq κ] (kv:κ→Value):Prop where
 inj:∀a b,kv a=kv b→a=b
 check:∀e k w,(Instr.checkKey e 10000 K (kv k)).run P w=.ok () w
 bits:∀k,Instr.sameBits 10000 (kv k) (kv k)=true
 find:∀(k:κ) (es:List MapEntry) (ks:List κ) w,es.map (·.key)=ks.map kv→(Instr.findKey K (kv k) es).run P w=.ok ((ks.findIdx? (fun q=>q == k)).bind fun j=>(es[j]?).map fun e=>(j,e.val)) w
def nX{κ:Type}[DecidableEq κ]{kv:κ→Value}{d:TypeDesc}(hs:∀a b:κ,Instr.sameNow d (kv a) (kv b)=some (decide (a=b)))(k:κ):∀(es:List MapEntry) (ks:List κ) (i:Nat),es.map (·.key)=ks.map kv →
  Instr.findNow d (kv k) es i=some ((ks.findIdx? (fun q=>q == k)).bind fun j=>(es[j]?).map fun e=>(i+j,e.val))
 | [],[],i,_=>by simp[Instr.findNow]
 | [],_::_,_,h=>by simp at h
 | _::_,[],_,h=>by simp at h
 | e::es,p::ks,i,h=>by
  simp only[aF,List.cons.injEq] at h;obtain⟨h1,h3⟩:=h;have ih:=nX hs k es ks (i+1) h3;simp only[Instr.findNow,h1,hs];by_cases hk:k=p
  ·subst hk;simp[List.findIdx?_cons]
  ·have a0 : (p == k)=false:=by simpa using fun h=>hk h.symm
   simp only[hk,decide_false,ih,List.findIdx?_cons,a0];cases hf:List.findIdx? (fun q=>q == k) ks<;>simp;rename_i j;rw[show i+1+j=i+(j+1) by omega]
def lA{P:Program}{K:TypeId}{κ:Type}[DecidableEq κ]{kv:κ→Value}{w:World}(hs:∀a b:κ,(Op.equal K (kv a) (kv b)).run P w=.ok (decide (a=b)) w)(k:κ):∀(es:List MapEntry) (ks:List κ) (i:Nat),es.map (·.key)=ks.map kv →
  (Instr.findAsking K (kv k) es i).run P w=.ok ((ks.findIdx? (fun q=>q == k)).bind fun j=>(es[j]?).map fun e=>(i+j,e.val)) w
 | [],[],i,_=>by simp[Instr.findAsking]
 | [],_::_,_,h=>by simp at h
 | _::_,[],_,h=>by simp at h
 | e::es,p::ks,i,h=>by
  simp only[aF,List.cons.injEq] at h;obtain⟨h1,h3⟩:=h;have ih:=lA hs k es ks (i+1) h3;simp only[Instr.findAsking,h1,Sem.run_bind,hs,Result.andThen_ok];by_cases hk:k=p
  ·subst hk;simp[List.findIdx?_cons]
  ·have a0 : (p == k)=false:=by simpa using fun h=>hk h.symm
   simp only[hk,decide_false,fY,if_false,ih,List.findIdx?_cons,a0];cases hf:List.findIdx? (fun q=>q == k) ks<;>simp;rename_i j;rw[show i+1+j=i+(j+1) by omega]
def kvI(k:Int):Value:=ac k
def kvS(s:ByteArray):Value:=.string s
def kvP(p:Int×Int):Value:=.agg ([p.1,p.2].map (Value.int .i64)).toArray
theorem keyI{P:Program}{K:TypeId}[h:TyInt P K .i64]:KeyT P K kvI where
 inj a b h:=by simpa [kvI] using h
 check e k w:=by
  have:∀m,(Instr.checkKey e (m+1) K (kvI k)).run P w=.ok () w:=fun m=>by simp[Instr.checkKey,kvI,run_underlying h.under]
  exact this 9999
 bits k:=by
  show Instr.sameBits (9999+1) (ac k) (ac k)=true;simp[Instr.sameBits]
 find k es ks w he:=by
  have:=nX (kv:=kvI) (d:=.int .i64) (fun a b=>by simp[kvI,Instr.sameNow];rfl) k es ks 0 he
  simp only[Instr.findKey,Sem.run_bind,run_underlying h.under,Result.andThen_ok,this,Sem.run_pure,du]
theorem keyS{P:Program}{K:TypeId}[h:TyStr P K]:KeyT P K kvS where
 inj a b h:=by simpa [kvS] using h
 check e k w:=by
  have:∀m,(Instr.checkKey e (m+1) K (kvS k)).run P w=.ok () w:=fun m=>by simp[Instr.checkKey,kvS,run_underlying h.under]
  exact this 9999
 bits k:=by
  show Instr.sameBits (9999+1) (.string k) (.string k)=true;simp only[Instr.sameBits,beq_toListBytes,beq_self_eq_true]
 find k es ks w he:=by
  have:=nX (kv:=kvS) (d:=.string) (fun a b=>by simp only[kvS,Instr.sameNow,beq_toListBytes,yW]) k es ks 0 he
  simp only[Instr.findKey,Sem.run_bind,run_underlying h.under,Result.andThen_ok,this,Sem.run_pure,du]
def AV{P:Program}{K n:Nat}[h:TyIS P K n]{e:Bool}{xs:List Int}{w:World}(hx:xs.length=n):(Instr.checkKey e 10000 K (.agg (xs.map (Value.int .i64)).toArray)).run P w=.ok () w:=by
 have hl:(P.fieldsOf K).toList.length=n:=by
  have:=congrArg List.length h.flds
  simpa using this
 have main:∀k:Nat,(∀T n,P.underlying T=some (TypeDesc.int .i64)→(Instr.checkKey e k T (ac n)).run P w=.ok () w)→(Instr.checkKey e (k+1) K (.agg (xs.map (Value.int .i64)).toArray)).run P w=.ok () w:=by
  intro k hk
  have aux : ∀ (fs : List Field) (i : Nat), fs.map (fun f => (f.name == "_", f.offset, P.underlying f.type)) = (List.range' i fs.length).map (fun i => (false, i, some (TypeDesc.int .i64))) →
    (∀f∈fs,∀w,(isAgg f.type).run P w=.ok false w)→i+fs.length=xs.length →
    (forIn fs PUnit.unit fun f r=>(do
     if f.name ≠ "_" then
      Instr.checkKey e k f.type (← part f.type (xs.map (Value.int .i64)).toArray f.offset)
      pure (ForInStep.yield PUnit.unit)
     else pure (ForInStep.yield PUnit.unit):Sem (ForInStep PUnit))).run P w=.ok PUnit.unit w:=by
   intro fs;induction fs with
   | nil=>intro i _ _ _;simp
   | cons f fs ih =>
    intro i h1 ho h2;simp only [aM] at h2;simp only [aF,aM,List.range'_succ,List.cons.injEq,Prod.mk.injEq] at h1;obtain ⟨⟨hn,hoff,hu⟩,hr⟩:=h1;have hn' : f.name ≠ "_" := by simpa using hn
    have hix:i<xs.length:=ab;have hf:=ho f (av ..);have e1:(xs.map (Value.int .i64)).toArray[i]? = some (ac xs[i]):=by simp[hix]
    have ih':=ih (i+1) hr (fun g hg=>ho g (au _ hg)) ab;rw[List.forIn_cons];simp only[if_pos hn',hoff,Sem.run_bind,iK hf e1,Result.andThen_ok,hk _ _ hu,Sem.run_pure];exact ih'
  have:=aux (P.fieldsOf K).toList 0 (by rw[hl,←List.range_eq_range'];exact h.flds) h.one ab
  simp only[Instr.checkKey,Sem.run_bind,run_underlying h.under,Result.andThen_ok];rw[←Array.forIn_toList];simp at this ⊢;rw[this];rfl
 exact main 9999 fun T n hT=>by
  have:∀m,(Instr.checkKey e (m+1) T (ac n)).run P w=.ok () w:=fun m=>by simp[Instr.checkKey,run_underlying hT]
  exact this 9998
theorem keyP{P:Program}{K:TypeId}[h:TyIS P K 2]:KeyT P K kvP where
 inj a b h:=by
  simp[kvP] at h;exact Prod.ext h.1 h.2
 check e k w:=AV (xs:=[k.1,k.2]) rfl
 bits k:=by
  have:∀n,Instr.sameBits (n+1) (kvP k) (kvP k)=true:=fun n=>by simp[Instr.sameBits,kvP]
  exact this 9999
 find k es ks w he:=by
  have hq:∀a b:Int×Int,(Op.equal K (kvP a) (kvP b)).run P w=.ok (decide (a=b)) w:=by
   intro a b;have:=mS (P:=P) (T:=K) (w:=w) (d:=9998) (xs:=[a.1,a.2]) (ys:=[b.1,b.2]) rfl rfl
   have e:decide ([a.1,a.2]=[b.1,b.2])=decide (a=b):=by
    obtain⟨a1,a2⟩:=a;obtain⟨b1,b2⟩:=b;simp
   rw[←e];exact this
  have h2:=lA (P:=P) (K:=K) (w:=w) hq k es ks 0 he;simp only[Instr.findKey,Sem.run_bind,run_underlying h.under,Result.andThen_ok];cases es with
  | nil =>
   cases ks with
   | nil=>simp[Instr.findNow]
   | cons _ _=>simp at he
  | cons x es =>
   cases ks with
   | nil=>simp at he
   | cons q ks =>
    have hk:x.key=kvP q:=by simp at he;exact he.1
    have hn:Instr.findNow (.struct (P.fieldsOf K)) (kvP k) (x::es) 0=none:=by simp[Instr.findNow,Instr.sameNow]
    rw[hn];simp only[du] at h2;exact h2
class KeyVal {κ:Type} (kv:κ→Value) (v:Value) (k:outParam κ):Prop where
 eq:v=kv k
instance (n:Int):KeyVal kvI (ac n) n:=⟨rfl⟩
instance (s:ByteArray):KeyVal kvS (.string s) s:=⟨rfl⟩
instance (a b:Int):KeyVal kvP (.agg #[ac a,ac b]) (a,b):=⟨rfl⟩
instance (n:Int):KeyVal kvI (kvI n) n:=⟨rfl⟩
def gmap{κ α:Type}(kv:κ→Value)(enc:α→Value)(b:Nat)(m:List (κ×α)):HP:=fun _ h =>
 ∃es a0,h b=some (.map es a0)∧es.toList.map (fun e=>(e.key,e.val))=m.map (fun p=>(kv p.1,enc p.2))∧(m.map (·.1)).Nodup∧es.size≤a0∧(∀e∈es,e.born<a0)∧(es.toList.map (·.born)).Nodup
def itOk{κ α:Type}(kv:κ→Value)(enc:α→Value)(m done:List (κ×α))(x:Array MapEntry×Nat×Array Nat×List Nat):Prop :=
 x.1.toList.map (fun e=>(e.key,e.val))=m.map (fun p=>(kv p.1,enc p.2))∧(m.map (·.1)).Nodup∧x.1.size≤x.2.1∧(∀e∈x.1,e.born<x.2.1)∧(x.1.toList.map (·.born)).Nodup ∧
  x.2.2.2.Nodup∧(∀j∈x.2.2.2,j<m.length)∧done=x.2.2.2.filterMap (fun j=>m[j]?)∧x.2.2.1.toList=x.2.2.2.filterMap (fun j=>(x.1[j]?).map (·.born))
def gE{κ α:Type}(kv:κ→Value)(enc:α→Value)(b:Nat)(m:List (κ×α))(r:Nat)(done:List (κ×α)):HP:=hex fun x:Array MapEntry×Nat×Array Nat×List Nat =>
 cm [cY (itOk kv enc m done x),own b (.map x.1 x.2.1),own r (.mapIter (some b) x.2.1 x.2.2.1 x.2.1)]
class PickG (L:LH) (b:Nat) (κ α:outParam Type) (kv:outParam (κ→Value)) (enc:outParam (α→Value)) (m:outParam (List (κ×α))) (R:outParam (LH)):Prop where
 perm:L.Perm (gmap kv enc b m::R)
instance {κ α:Type}(L:LH)(b:Nat)(kv:κ→Value)(enc:α→Value)(m:List (κ×α)):PickG (gmap kv enc b m::L) b κ α kv enc m L:=⟨List.Perm.refl _⟩
instance {κ α:Type}(A:HP)(L:LH)(b:Nat)(kv:κ→Value)(enc:α→Value)(m:List (κ×α))(R:LH)[h:PickG L b κ α kv enc m R]:PickG (A::L) b κ α kv enc m (A::R):=⟨(h.perm.cons A).trans (List.Perm.swap _ _ _)⟩
class PickIt (L:LH) (r:Nat) (κ α:outParam Type) (kv:outParam (κ→Value)) (enc:outParam (α→Value)) (b:outParam Nat) (m done:outParam (List (κ×α))) (R:outParam (LH)):Prop where
 perm:L.Perm (gE kv enc b m r done::R)
instance {κ α:Type}(L:LH)(b r:Nat)(kv:κ→Value)(enc:α→Value)(m done:List (κ×α)):PickIt (gE kv enc b m r done::L) r κ α kv enc b m done L:=⟨List.Perm.refl _⟩
instance {κ α:Type}(A:HP)(L:LH)(b r:Nat)(kv:κ→Value)(enc:α→Value)(m done:List (κ×α))(R:LH)[h:PickIt L r κ α kv enc b m done R]:PickIt (A::L) r κ α kv enc b m done (A::R):=⟨(h.perm.cons A).trans (List.Perm.swap _ _ _)⟩
section mapsP
variable {κ α:Type}
def Sat.gmap_parts{θ:Th}{kv:κ→Value}{enc:α→Value}{b:Nat}{m:List (κ×α)}{L:LH}{w:World}(s:Sat θ (gmap kv enc b m::L) w) :
  ∃es a0,es.toList.map (fun e=>(e.key,e.val))=m.map (fun p=>(kv p.1,enc p.2))∧(m.map (·.1)).Nodup∧es.size≤a0∧(∀e∈es,e.born<a0)∧(es.toList.map (·.born)).Nodup∧Sat θ (own b (.map es a0)::L) w:=by
 obtain⟨ok,ι,h,a,b1,c,ι₀,h₁,h₂,d1,d2,d3,d4,⟨es,a0,e1,e2,e3,e4,e5,e6⟩,d6⟩:=s;exact⟨es,a0,e2,e3,e4,e5,e6,ok,ι,h,a,b1,c,ι₀,h₁,h₂,d1,d2,d3,d4,e1,d6⟩
def Sat.c8{θ:Th}{kv:κ→Value}{enc:α→Value}{b:Nat}{m:List (κ×α)}{L:LH}{w:World}{es:Array MapEntry}{a0:Nat}(s:Sat θ (own b (.map es a0)::L) w)
  (h1:es.toList.map (fun e=>(e.key,e.val))=m.map (fun p=>(kv p.1,enc p.2))) (h2:(m.map (·.1)).Nodup) (h3:es.size≤a0) (h4:∀e∈es,e.born<a0) (h5:(es.toList.map (·.born)).Nodup):Sat θ (gmap kv enc b m::L) w:=by
 obtain⟨ok,ι,h,a,b1,c,ι₀,h₁,h₂,d1,d2,d3,d4,d5,d6⟩:=s;exact⟨ok,ι,h,a,b1,c,ι₀,h₁,h₂,d1,d2,d3,d4,⟨es,a0,d5,h1,h2,h3,h4,h5⟩,d6⟩
def fi{kv:κ→Value}{enc:α→Value}{b:Nat}{m:List (κ×α)}{L R:LH}[hp:PickG L b κ α kv enc m R]:∀θ R w,Sat θ (L++R) w→(m.map (·.1)).Nodup:=fun θ R w s=>by
 obtain⟨es,a0,e1,e2,_⟩:=(s.perm (hp.perm.append_right R)).gmap_parts;exact e2
end mapsP
section maps
variable {κ α:Type}[DecidableEq κ]
def gins(m:List (κ×α))(k:κ)(a:α):List (κ×α):=if m.any (fun p=>p.1 == k) then m.map (fun p=>if p.1=k then(k,a) else p) else m++[(k,a)]
def gera(m:List (κ×α))(k:κ):List (κ×α):=m.filter (fun p=>!(p.1 == k))
def tQ{m:List (κ×α)}{k:κ}:(m.map (·.1)).findIdx? (fun q=>q == k)=m.findIdx? (fun p=>p.1 == k):=by
 induction m with
 | nil=>rfl
 | cons p m ih=>simp only[aF,List.findIdx?_cons,ih]
def ol{m:List (κ×α)}{k:κ}:(m.findIdx? (fun p=>p.1 == k)).bind (fun j=>m[j]?.map (·.2))=m.lookup k:=by
 induction m with
 | nil=>simp
 | cons p m ih =>
  obtain⟨q,x⟩:=p;simp only[List.findIdx?_cons,cx];by_cases hk:k=q
  ·subst hk;simp
  ·have hb:(k == q)=false:=by simpa using hk
   have a0 : (q == k)=false:=by simpa using fun h=>hk h.symm
   simp only[hb,a0,←ih];cases List.findIdx? (fun p=>p.1 == k) m<;>simp
def pk{P:Program}{K:TypeId}{kv:κ→Value}[hk:KeyT P K kv]{enc:α→Value}{es:Array MapEntry}{m:List (κ×α)}(k:κ)(w:World)(he:es.toList.map (fun e=>(e.key,e.val))=m.map (fun p=>(kv p.1,enc p.2))) :
  (Instr.findKey K (kv k) es.toList).run P w=.ok ((m.findIdx? (fun p=>p.1 == k)).bind fun j=>(m[j]?).map fun p=>(j,enc p.2)) w:=by
 have h1:es.toList.map (·.key)=(m.map (·.1)).map kv:=by
  have:=congrArg (List.map Prod.fst) he
  simpa [cX,Function.comp_def] using this
 rw[hk.find k es.toList (m.map (·.1)) w h1,tQ];congr 1;cases m.findIdx? (fun p=>p.1 == k) with
 | none=>rfl
 | some j =>
  simp only[Option.bind_some];have h2:=congrArg (fun l=>l[j]?) he;simp only[List.getElem?_map] at h2;cases hq:es.toList[j]? with
  | none =>
   rw[hq] at h2;cases hm:m[j]? with
   | none=>rfl
   | some p=>rw[hm] at h2;simp at h2
  | some q =>
   rw[hq] at h2;cases hm:m[j]? with
   | none=>rw[hm] at h2;simp at h2
   | some p=>rw[hm] at h2;simp at h2;simp[h2.2]
def jN{m:List (κ×α)}{k:κ}{a:α}(h:(m.map (·.1)).Nodup):((gins m k a).map (·.1)).Nodup:=by
 unfold gins;split
 ·rw[cX]
  have:(fun p:κ×α=>(if p.1=k then(k,a) else p).1)=(·.1):=by
   funext p;split
   ·rename_i h;exact h.symm
   ·rfl
  show((m.map ((·.1) ∘ fun p=>if p.1=k then(k,a) else p))).Nodup;rw[show((·.1) ∘ fun p:κ×α=>if p.1=k then(k,a) else p)=(fun p:κ×α=>(if p.1=k then(k,a) else p).1) from rfl,this];exact h
 ·rename_i hn;rw[aJ,ia];refine⟨h,by simp,?_⟩;intro x hx y hy;simp at hy;subst hy;rintro rfl;apply hn;obtain⟨p,hp,rfl⟩:=List.mem_map.1 hx;exact List.any_eq_true.2 ⟨p,hp,by simp⟩
def lm{k:κ}{a:α}:∀{m:List (κ×α)} {j:Nat},(m.map (·.1)).Nodup→m.findIdx? (fun p=>p.1 == k)=some j→m.map (fun p=>if p.1=k then(k,a) else p)=m.set j (k,a)
 | [],j,_,h=>by simp at h
 | p::m,j,hn,h=>by
  simp only[aF,fm] at hn;rw[List.findIdx?_cons] at h;by_cases hk:p.1=k
  ·simp[hk] at h;subst h;simp only[aF,hk,if_true,fX,List.cons.injEq,true_and];rw[dI (g:=id),List.map_id];intro q hq;have:q.1≠k:=fun e=>hn.1 (by rw[hk,←e];exact alStd0List_mem_map_of_mem hq);simp[this]
  ·have hb:(p.1 == k)=false:=by simpa using hk
   simp only[hb] at h;obtain⟨i,hi,rfl⟩:=Option.map_eq_some_iff.1 h;simp only[aF,hk,if_false,List.set_cons_succ,List.cons.injEq,true_and];exact lm hn.2 hi
def yo{k:κ}:∀{m:List (κ×α)} {j:Nat},(m.map (·.1)).Nodup→m.findIdx? (fun p=>p.1 == k)=some j→gera m k=m.eraseIdx j
 | [],j,_,h=>by simp at h
 | p::m,j,hn,h=>by
  simp only[aF,fm] at hn;rw[List.findIdx?_cons] at h;by_cases hk:p.1=k
  ·simp[hk] at h;subst h;simp only[gera,List.filter_cons,hk,beq_self_eq_true,Bool.not_true,fY,if_false,List.eraseIdx_zero,List.tail_cons];apply List.filter_eq_self.2;intro q hq;have:q.1≠k:=fun e=>hn.1 (by rw[hk,←e];exact alStd0List_mem_map_of_mem hq);simp[this]
  ·have hb:(p.1 == k)=false:=by simpa using hk
   simp only[hb] at h;obtain⟨i,hi,rfl⟩:=Option.map_eq_some_iff.1 h;have ih:=yo hn.2 hi;simp only[gera,List.filter_cons,hb,Bool.not_false,if_true,List.eraseIdx_cons_succ,List.cons.injEq,true_and];exact ih
def ja{m:List (κ×α)}{k q:κ}{a:α}:(gins m k a).lookup q=if q=k then some a else m.lookup q:=by
 unfold gins;split
 ·rename_i h;induction m with
  | nil=>simp at h
  | cons p m ih =>
   obtain⟨r,x⟩:=p;simp only[aF,cx];by_cases hr:r=k
   ·subst hr;simp only[if_true,cx];by_cases hq:q=r
    ·subst hq;simp
    ·have hb:(q == r)=false:=by simpa using hq
     simp only[hb,hq,if_false];by_cases hm:m.any (fun p=>p.1 == r)=true
     ·have:=ih hm;simp only[hq,if_false] at this;exact this
     ·rw[dI (g:=id),List.map_id];intro p hp;have:p.1≠r:=fun e=>hm (List.any_eq_true.2 ⟨p,hp,by simp[e]⟩);simp[this]
   ·have hm:m.any (fun p=>p.1 == k)=true:=by
     simp only[List.any_cons] at h;have:(r == k)=false:=by simpa using hr
     simpa [this] using h
    simp only[hr,if_false,cx];by_cases hq:q=r
    ·subst hq;simp[hr]
    ·have hb:(q == r)=false:=by simpa using hq
     simp only[hb];exact ih hm
 ·rename_i h;rw[List.lookup_append];by_cases hq:q=k
  ·subst hq
   have:m.lookup q=none:=by
    rw[←ol]
    have:m.findIdx? (fun p=>p.1 == q)=none:=by
     rw[List.findIdx?_eq_none_iff];intro p hp;simp only[Bool.not_eq_true] at h;have:=List.any_eq_false.1 h p hp
     simpa using this
    simp[this]
   simp[this]
  ·have hb:(q == k)=false:=by simpa using hq
   simp[cx,hb,hq]
def AF{m:List (κ×α)}{k q:κ}:(gera m k).lookup q=if q=k then none else m.lookup q:=by
 induction m with
 | nil=>simp[gera]
 | cons p m ih =>
  obtain⟨r,x⟩:=p;simp only[gera,List.filter_cons] at ih ⊢;by_cases hr:r=k
  ·subst hr;simp only[beq_self_eq_true,Bool.not_true,fY,if_false,ih,cx];by_cases hq:q=r
   ·subst hq;simp
   ·have hb:(q == r)=false:=by simpa using hq
    simp[hb,hq]
  ·have hb:(r == k)=false:=by simpa using hr
   simp only[hb,Bool.not_false,if_true,cx];by_cases hq:q=r
   ·subst hq;simp[hr]
   ·have a0:(q == r)=false:=by simpa using hq
    simp only[a0];exact ih
def cu{m:List (κ×α)}{k:κ}{a:α}(h:m.lookup k=some a):(k,a)∈m:=by
 induction m with
 | nil=>cases h
 | cons p m ih =>
  obtain⟨q,x⟩:=p;rw[cx] at h;by_cases hk:k=q
  ·subst hk;simp at h;subst h;exact av ..
  ·have hb:(k == q)=false:=by simpa using hk
   simp only[hb] at h;exact au _ (ih h)
def jW{m:List (κ×α)}(hn:(m.map (·.1)).Nodup){k:κ}{a:α}(h:(k,a)∈m):m.lookup k=some a:=by
 induction m with
 | nil=>cases h
 | cons p m ih =>
  obtain⟨q,x⟩:=p;simp only[aF,fm] at hn;rw[cx];rcases List.mem_cons.1 h with e|h'
  ·simp only[Prod.mk.injEq] at e;obtain⟨rfl,rfl⟩:=e;simp
  ·have:k≠q:=fun e=>hn.1 (by rw[←e];exact alStd0List_mem_map_of_mem (f:=(·.1)) h');have hb:(k == q)=false:=by simpa using this
   simp only[hb];exact ih hn.2 h'
end maps
section ops
variable {P:Program}{L:LH}{env:Env}{ty:TypeId}{κ α:Type}
class TyG (P:Program) (T:Nat) (K E:outParam Nat) (z:outParam Value):Prop where
 under:P.underlying T=some (.map K E)
 zero:(P.info? E).map (·.zero)=some (some z)
def Ef.d8{t K E:TypeId}{z:Value}{o:Option Operand}[ht:TyG P t K E z](kv:κ→Value)(enc:α→Value)(ho:o=none∨∃x k n,o=some x∧evE env x=some (.int k n)∧0≤n):Ef P L env (.makeMap t o) ty (fun v L'=>∃b,v=.map (some b)∧L' = gmap kv enc b []::L) :=
 Ef.val (fun θ R a w ea s a0 pos af g=>⟨_,w.alloc (.map #[] 0),_,by
  rcases ho with rfl|⟨x,k,n,rfl,hx,hn⟩
  ·simp[execOp,Instr.makeMap]
  ·simp[execOp,Instr.makeMap,aL ea hx,run_underlying ht.under,asInt,asIntOf],⟨_,rfl,rfl⟩,Sat.c8 s.alloc cc cc cc cc cc⟩)
variable [DecidableEq κ]
def Ev.w3{t:TypeId}{x y:Operand}{b K E:Nat}{z a2:Value}{kv:κ→Value}{enc:α→Value}{m:List (κ×α)}{Rest:LH}{k:κ}[ht:TyG P t K E z][hk:KeyT P K kv][hp:PickG L b κ α kv enc m Rest](hx:evE env x=some (.map (some b)))(hy:evE env y=some a2)[a4:KeyVal kv a2 k](ok:Bool) :
  Ev P L env (.lookup t x y ok) ty (if ok then .tuple #[((m.lookup k).map enc).getD z,.bool (m.lookup k).isSome] else((m.lookup k).map enc).getD z) :=
 Ev.mk (fun θ R _ w ea s _ _ _ _=>by
  obtain rfl:=a4.eq;obtain⟨es,a0,e1,e2,e3,e4,e5,s2⟩:=(s.perm (hp.perm.append_right R)).gmap_parts;have hb:=s2.own_heap;have hf:=pk (P:=P) (K:=K) k w e1;have a1:(getObj b).run P w=.ok (.map es a0) w:=by simp[getObj,Sem.run,hb]
  have h3:=ht.zero;rw[←ol];cases hi:P.info? E with
  | none=>rw[hi] at h3;cases h3
  | some i =>
   rw[hi] at h3;simp at h3;cases hj:m.findIdx? (fun p=>p.1 == k) with
   | none =>
    rw[hj] at hf;simp[execOp,aL ea hx,aL ea hy,Instr.lookup,run_underlying ht.under,a1,hk.check,hf,zeroValue,typeInfo,hi,h3]
   | some j =>
    have a3:=(List.findIdx?_eq_some_iff_getElem.1 hj).1;rw[hj] at hf;simp[List.getElem?_eq_getElem a3] at hf;simp[execOp,aL ea hx,aL ea hy,Instr.lookup,run_underlying ht.under,a1,hk.check,hf,List.getElem?_eq_getElem a3])
def Ev.f9{t:TypeId}{x y:Operand}{b K E:Nat}{z a0:Value}{kv:κ→Value}{enc:α→Value}{m:List (κ×α)}{Rest:LH}{k:κ}[ht:TyG P t K E z][hk:KeyT P K kv][hp:PickG L b κ α kv enc m Rest](hx:evE env x=some (.map (some b)))(hy:evE env y=some a0)[a1:KeyVal kv a0 k] :
  Ev P L env (.lookup t x y false) ty (((m.lookup k).map enc).getD z):=by
 have:=Ev.w3 (P:=P) (L:=L) (ty:=ty) (t:=t) hx hy false
 simpa using this
def Ev.a8{t:TypeId}{x y:Operand}{b K E:Nat}{z a0:Value}{kv:κ→Value}{enc:α→Value}{m:List (κ×α)}{Rest:LH}{k:κ}[ht:TyG P t K E z][hk:KeyT P K kv][hp:PickG L b κ α kv enc m Rest](hx:evE env x=some (.map (some b)))(hy:evE env y=some a0)[a1:KeyVal kv a0 k] :
  Ev P L env (.lookup t x y true) ty (.tuple #[((m.lookup k).map enc).getD z,.bool (m.lookup k).isSome]):=by
 have:=Ev.w3 (P:=P) (L:=L) (ty:=ty) (t:=t) hx hy true
 simpa using this
def Ef.c9{t:TypeId}{x y z' : Operand}{b K E:Nat}{z v a4:Value}{kv:κ→Value}{enc:α→Value}{m:List (κ×α)}{Rest:LH}{k:κ}(e:α)[ht:TyG P t K E z][hk:KeyT P K kv][hp:PickG L b κ α kv enc m Rest](hx:evE env x=some (.map (some b)))(hy:evE env y=some a4)(hz:evE env z' = some v)[b2:KeyVal kv a4 k](hv:v=enc e)
  : Ef P L env (.mapUpdate t x y z') ty (fun _ L'=>L' = gmap kv enc b (gins m k e)::Rest) :=
 Ef.skip (fun θ R a w ea s b5 pos af g=>by
  subst hv;obtain rfl:=b2.eq;obtain⟨es,a0,e1,e2,e3,e4,e5,s2⟩:=(s.perm (hp.perm.append_right R)).gmap_parts;have hb:=s2.own_heap;have hf:=pk (P:=P) (K:=K) k w e1;have a2:(getObj b).run P w=.ok (.map es a0) w:=by simp[getObj,Sem.run,hb]
  have b1:=jN (k:=k) (a:=e) e2;cases hj:m.findIdx? (fun p=>p.1 == k) with
  | none =>
   rw[hj] at hf;simp only[Option.bind_none] at hf
   have b3:m.any (fun p=>p.1 == k)=false:=by
    rw[List.findIdx?_eq_none_iff] at hj;simpa using hj
   refine⟨_,_,?_,rfl,Sat.c8 (s2.setMap (o':=.map (es.push { key:=kv k,val:=enc e,born:=a0 }) (a0+1))) ?_ b1 ?_ ?_ ?_⟩
   ·simp[execOp,aL ea hx,aL ea hy,aL ea hz,Instr.mapUpdate,run_underlying ht.under,a2,hk.check,hf,iI hb]
   ·simp[e1,gins,b3]
   ·simp;omega
   ·intro x hx;rcases Array.mem_push.1 hx with hx|rfl
    ·have:=e4 x hx;omega
    ·simp
   ·simp only[Array.toList_push,aJ,aF,bG];rw[ia];refine⟨e5,by simp,?_⟩;intro x hx y hy;simp at hy;subst hy;obtain⟨q,hq,rfl⟩:=List.mem_map.1 hx;have:=e4 q (by simpa using hq)
    omega
  | some j =>
   have a5:m.any (fun p=>p.1 == k)=true:=by
    obtain⟨a7,h1,_⟩:=List.findIdx?_eq_some_iff_getElem.1 hj;exact List.any_eq_true.2 ⟨m[j],bR a7,h1⟩
   have a9:=lm (a:=e) e2 hj;obtain⟨a1,b0,_⟩:=List.findIdx?_eq_some_iff_getElem.1 hj;rw[hj] at hf;simp[List.getElem?_eq_getElem a1] at hf
   have b6:es.size=m.length:=by
    have:=congrArg List.length e1
    simpa using this
   have a6:((es[j]?).map (·.key)).getD (kv k)=kv k:=by
    have h5:=congrArg (fun l=>l[j]?) e1;simp only[List.getElem?_map,List.getElem?_eq_getElem a1,Array.getElem?_toList] at h5;rw[Array.getElem?_eq_getElem ab] at h5 ⊢;simp at h5 ⊢;rw[h5.1];simp at b0;rw[b0]
   have b4:(Instr.keyThatStays (((es[j]?).map (·.key)).getD (kv k)) (kv k)).run P w=.ok (kv k) w:=by
    rw[a6];simp[Instr.keyThatStays,hk.bits]
   refine⟨_,_,?_,rfl,Sat.c8 (s2.setMap (o':=.map (es.modify j fun x=>{ x with key:=kv k,val:=enc e }) a0)) ?_ b1 ?_ ?_ ?_⟩
   ·simp[execOp,aL ea hx,aL ea hy,aL ea hz,Instr.mapUpdate,run_underlying ht.under,a2,hk.check,hf,b4,iI hb]
   ·simp only[gins,a5,if_true,a9];rw[Array.toList_modify];apply ib;intro i;have h5:=congrArg (fun l=>l[i]?) e1;simp only[List.getElem?_map] at h5;simp only[List.getElem?_map,List.getElem?_modify,List.getElem?_set];by_cases a3:j=i
    ·subst a3;have a7:j<es.toList.length:=by simp;omega
     simp[a1,List.getElem?_eq_getElem a7]
    ·simp only[a3,if_false];cases hq:es.toList[i]? with
     | none=>rw[hq] at h5;simpa using h5
     | some q=>rw[hq] at h5;simpa using h5
   ·simpa using e3
   ·intro x hx;obtain⟨i,hi,rfl⟩:=Array.mem_iff_getElem.1 hx;rw[Array.getElem_modify];have h6:es[i]'(by simpa using hi)∈es:=Array.getElem_mem _;split
    ·exact e4 (es[i]'(by simpa using hi)) h6
    ·exact e4 _ h6
   ·have:(es.modify j fun x=>{ x with key:=kv k,val:=enc e }).toList.map (·.born)=es.toList.map (·.born):=by
     rw[Array.toList_modify];apply ib;intro i;simp only[List.getElem?_map,List.getElem?_modify];by_cases a3:j=i
     ·subst a3;cases es.toList[j]?<;>simp
     ·simp[a3]
    rw[this];exact e5)
def Ef.l9{t kt:TypeId}{x y:Operand}{b K E:Nat}{z a2:Value}{kv:κ→Value}{enc:α→Value}{m:List (κ×α)}{Rest:LH}{k:κ}[ht:TyG P t K E z][hk:KeyT P K kv][hp:PickG L b κ α kv enc m Rest](hx:evE env x=some (.map (some b)))(hy:evE env y=some a2)[a9:KeyVal kv a2 k]
  : Ef P L env (.call { callee:=.builtin .delete,args:=#[x,y],argTypes:=#[t,kt] }) ty (fun _ L'=>L' = gmap kv enc b (gera m k)::Rest) :=
 Ef.val (fun θ R a w ea s b0 pos af g=>by
  obtain rfl:=a9.eq;obtain⟨es,a0,e1,e2,e3,e4,e5,s2⟩:=(s.perm (hp.perm.append_right R)).gmap_parts;have hb:=s2.own_heap;have hf:=pk (P:=P) (K:=K) k w e1;have a1:(getObj b).run P w=.ok (.map es a0) w:=by simp[getObj,Sem.run,hb]
  have a7:((gera m k).map (·.1)).Nodup:=e2.sublist ((List.filter_sublist).map _)
  have b2:es.size=m.length:=by
   have:=congrArg List.length e1
   simpa using this
  cases hj:m.findIdx? (fun p=>p.1 == k) with
  | none =>
   rw[hj] at hf;simp only[Option.bind_none] at hf;have a4:=List.findIdx?_eq_none_iff.1 hj;have he:gera m k=m:=List.filter_eq_self.2 fun p hp=>by simp[a4 p hp]
   refine⟨.tuple #[],_,_,?_,rfl,Sat.c8 (s2.setMap (o':=.map es a0)) (by rw[he];exact e1) a7 e3 e4 e5⟩;simp[execOp,resolve,invoke,builtin,aL ea hx,aL ea hy,Builtin.delete_,run_underlying ht.under,a1,hk.check,hf,iI hb]
  | some j =>
   have a5:=yo e2 hj;obtain⟨a6,b1,_⟩:=List.findIdx?_eq_some_iff_getElem.1 hj;rw[hj] at hf;simp[List.getElem?_eq_getElem a6] at hf
   have a3:(es.eraseIdxIfInBounds j).toList=es.toList.eraseIdx j:=by
    simp[Array.eraseIdxIfInBounds,show j<es.size by omega]
   refine⟨.tuple #[],_,_,?_,rfl,Sat.c8 (s2.setMap (o':=.map (es.eraseIdxIfInBounds j) a0)) ?_ a7 ?_ ?_ ?_⟩
   ·simp[execOp,resolve,invoke,builtin,aL ea hx,aL ea hy,Builtin.delete_,run_underlying ht.under,a1,hk.check,hf,iI hb]
   ·rw[a3,a5,jJ,jJ,e1]
   ·have h7:(es.eraseIdxIfInBounds j).size=(es.toList.eraseIdx j).length:=by rw[←a3,ep]
    have h8:(es.toList.eraseIdx j).length≤es.toList.length:=List.length_eraseIdx_le es.toList j;have h9:es.toList.length=es.size:=ep;omega
   ·intro x hx;have:x∈es.toList.eraseIdx j:=by rw[←a3];exact Array.mem_toList_iff.2 hx
    exact e4 x (by simpa using List.mem_of_mem_eraseIdx this)
   ·rw[a3,jJ];exact e5.sublist (List.eraseIdx_sublist _ _))
end ops
section ranges
variable {P:Program}{L:LH}{env:Env}{ty:TypeId}{κ α:Type}{kv:κ→Value}{enc:α→Value}
def Sat.it_parts{θ:Th}{b r:Nat}{m done:List (κ×α)}{L:LH}{w:World}(s:Sat θ (gE kv enc b m r done::L) w) :
  ∃x:Array MapEntry×Nat×Array Nat×List Nat,itOk kv enc m done x∧Sat θ (own b (.map x.1 x.2.1)::own r (.mapIter (some b) x.2.1 x.2.2.1 x.2.1)::L) w:=by
 obtain⟨x,s⟩:=s.ofHex;have s2:=s.ofStars;simp only[al,ak] at s2;exact⟨x,s2.ofPure,s2.tail⟩
def Sat.f7{θ:Th}{b r:Nat}{m done:List (κ×α)}{L:LH}{w:World}(x:Array MapEntry×Nat×Array Nat×List Nat)(hx:itOk kv enc m done x)(s:Sat θ (own b (.map x.1 x.2.1)::own r (.mapIter (some b) x.2.1 x.2.2.1 x.2.1)::L) w) :
  Sat θ (gE kv enc b m r done::L) w:=Sat.d8 x (Sat.a8 (A:=[cY (itOk kv enc m done x),own b (.map x.1 x.2.1),own r (.mapIter (some b) x.2.1 x.2.2.1 x.2.1)]) (s.addPure hx))
def Ef.j7{t K E:TypeId}{z:Value}{x:Operand}{b:Nat}{m:List (κ×α)}{Rest:LH}[ht:TyG P t K E z][hp:PickG L b κ α kv enc m Rest](hx:evE env x=some (.map (some b))) :
  Ef P L env (.range t x) ty (fun v L'=>∃r,v=ax r∧L' = gE kv enc b m r []::Rest) :=
 Ef.val (fun θ R a w ea s a2 pos af g=>by
  obtain⟨es,a0,e1,e2,e3,e4,e5,s2⟩:=(s.perm (hp.perm.append_right R)).gmap_parts;have hb:=s2.own_heap;have a1:(getObj b).run P w=.ok (.map es a0) w:=by simp[getObj,Sem.run,hb]
  refine⟨_,w.alloc (.mapIter (some b) a0 #[] a0),_,?_,⟨w.heap.size,rfl,rfl⟩,?_⟩
  ·simp[execOp,Instr.range,aL ea hx,run_underlying ht.under,a1]
  ·refine Sat.f7 (es,a0,#[],[]) ⟨e1,e2,e3,e4,e5,by simp,by simp,by simp,by simp⟩ ?_;exact(Sat.alloc s2).perm (List.Perm.swap _ _ _))
def vQ{n:Nat}{js:List Nat}(h1:js.Nodup)(h2:∀j∈js,j<n)(h3:∀j,j<n→j∈js):js.Perm (List.range n) :=
 (List.perm_ext_iff_of_nodup h1 List.nodup_range).2 fun j=>⟨fun h=>List.mem_range.2 (h2 j h),fun h=>h3 j (List.mem_range.1 h)⟩
def tm{β:Type}(m:List β):(List.range m.length).filterMap (fun j=>m[j]?)=m:=by
 induction m with
 | nil=>rfl
 | cons x m ih =>
  rw[aM,List.range_succ_eq_map];simp only[List.filterMap_cons,List.getElem?_cons_zero,List.filterMap_map,Function.comp_def,List.getElem?_cons_succ,Nat.succ_eq_add_one];rw[ih]
def pF{β:Type}{m:List β}:∀{js:List Nat},(∀j∈js,j<m.length)→(js.filterMap (fun j=>m[j]?)).length=js.length
 | [],_=>rfl
 | j::js,h=>by
  rw[List.filterMap_cons,List.getElem?_eq_getElem (h j (av ..))];simp only[aM,pF fun i hi=>h i (au _ hi)]
def vj:∀{n:Nat} {js:List Nat},js.Nodup→(∀j∈js,j<n)→js.length≤n
 | 0,js,_,h2=>by
  cases js with
  | nil=>simp
  | cons j js=>exact absurd (h2 j (av ..)) ab
 | n+1,js,h1,h2=>by
  have ih:=vj (n:=n) (js:=js.erase n) (h1.erase n) (fun j hj=>by
   have h3:=(List.Nodup.mem_erase_iff h1).1 hj;have:=h2 j h3.2
   omega)
  have:=List.length_erase (a:=n) (l:=js)
  split at this<;>omega
def Ef.k7{it:Operand}{b r:Nat}{m done:List (κ×α)}{Rest:LH}[hp:PickIt L r κ α kv enc b m done Rest](hx:evE env it=some (ax r)) :
  Ef P L env (.next it false) ty (fun v L'=>(v=.tuple #[.bool false]∧L' = gE kv enc b m r done::Rest∧done.Perm m)∨(∃p,v=.tuple #[.bool true,kv p.1,enc p.2]∧L' = gE kv enc b m r (done++[p])::Rest∧p∈m∧p∉done∧done.length<m.length)) :=
 Ef.val (fun θ R a w ea s c0 pos af g=>by
  obtain⟨⟨es,a0,a1,js⟩,⟨e1,e2,e3,e4,e5,j1,j2,j3,j4⟩,s2⟩:=(s.perm (hp.perm.append_right R)).it_parts;dsimp only at e1 e3 e4 e5 j1 j2 j3 j4 s2;have hb:=s2.own_heap;have hr:=(s2.perm (List.Perm.swap _ _ _)).own_heap
  have c2:es.size=m.length:=by
   have:=congrArg List.length e1
   simpa using this
  have a4:∀j,j∈js→∃e,es[j]? = some e∧e.born∈a1:=by
   intro j hj;have c1:=j2 j hj;refine⟨es[j]'(by omega),Array.getElem?_eq_getElem ab,?_⟩
   have:(es[j]'(by omega)).born∈a1.toList:=by
    rw[j4];exact List.mem_filterMap.2 ⟨j,hj,by simp[Array.getElem?_eq_getElem (ab:j<es.size)]⟩
   simpa using this
  have a5:∀x∈a1,∃j∈js,∃e,es[j]? = some e∧e.born=x:=by
   intro x hx;have:x∈a1.toList:=by simpa using hx
   rw[j4] at this;obtain⟨j,hj,b5⟩:=List.mem_filterMap.1 this;obtain⟨e,he,a6⟩:=Option.map_eq_some_iff.1 b5;exact⟨j,hj,e,he,a6⟩
  have b0:∀(i j:Nat) (hi:i<es.size) (hj:j<es.size),es[i].born=es[j].born→i=j:=by
   intro i j hi hj he;have h1:(es.toList.map (·.born))[i]'(by simpa using hi)=(es.toList.map (·.born))[j]'(by simpa using hj):=by simpa using he
   exact(fh e5).1 h1
  have b7:∀(j:Nat) (hj:j<es.size),es[j].key=kv (m[j]'(by omega)).1∧es[j].val=enc (m[j]'(by omega)).2:=by
   intro j hj;have h5:=congrArg (fun l=>l[j]?) e1;simp only[List.getElem?_map,Array.getElem?_toList,Array.getElem?_eq_getElem hj,List.getElem?_eq_getElem (ab:j<m.length)] at h5;simpa using h5
  rcases run_next_at (P:=P) w ty r b a0 a0 a1 es a0 hr hb (fun x hx=>e4 x (by simpa using hx)) (aq _) with⟨h0,a3⟩|⟨e,he,w1,b9,a3⟩
  ·refine⟨_,w,_,?_,.inl ⟨rfl,rfl,?_⟩,Sat.f7 (es,a0,a1,js) ⟨e1,e2,e3,e4,e5,j1,j2,j3,j4⟩ s2⟩
   ·simp[execOp,aL ea hx,a3]
   ·have a7:∀j,j<m.length→j∈js:=by
     intro j hj
     have hl:es[j]'(by omega)∉leftOf es a1:=by
      have:leftOf es a1=#[]:=Array.eq_empty_of_size_eq_zero h0;rw[this];simp
     simp only[leftOf,Array.mem_filter,not_and] at hl;have h1:=hl (Array.getElem_mem _);have h2:(es[j]'(by omega)).born∈a1:=by simpa using h1
     obtain⟨i,hi,e,he,a6⟩:=a5 _ h2;have a2:=j2 i hi;rw[Array.getElem?_eq_getElem ab] at he;simp only[Option.some.injEq] at he;rw[←he] at a6;rw[←b0 i j ab ab a6];exact hi
    rw[j3];exact((vQ j1 j2 a7).filterMap _).trans (by rw[tm])
  ·have b3 : e∈es∧e.born∉a1:=by
    have:e∈leftOf es a1:=by simpa using he
    simp only[leftOf,Array.mem_filter] at this;exact⟨this.1,by simpa using this.2⟩
   obtain⟨j,hj,rfl⟩:=Array.mem_iff_getElem.1 b3.1
   have b1:j∉js:=by
    intro b6;obtain⟨e,h1,h2⟩:=a4 j b6;rw[Array.getElem?_eq_getElem hj] at h1;simp only[Option.some.injEq] at h1;rw[←h1] at h2;exact b3.2 h2
   have b4:j<m.length:=ab
   have b8:m[j]∉done:=by
    rw[j3];intro b2;obtain⟨i,hi,a9⟩:=List.mem_filterMap.1 b2;have a2:=j2 i hi;rw[List.getElem?_eq_getElem a2] at a9;simp only[Option.some.injEq] at a9;have h1:(m.map (·.1))[i]'(by simpa using a2)=(m.map (·.1))[j]'(by simpa using b4):=by simp[a9]
    have:=(fh e2).1 h1
    exact b1 (this▸hi)
   have hk:=b7 j hj;refine⟨_,ChangeMaps.setBlock w1 r (.mapIter (some b) a0 (a1.push es[j].born) a0),_,?_,.inr ⟨m[j],rfl,rfl,bR _,b8,?_⟩,Sat.f7 (es,a0,a1.push es[j].born,js++[j]) ⟨e1,e2,e3,e4,e5,?_,?_,?_,?_⟩ ?_⟩
   ·rw[←hk.1,←hk.2];simp[execOp,aL ea hx,a3]
   ·rw[j3,pF j2]
    have:=vj (n:=m.length) (js:=js++[j]) (by
     rw[ia];exact⟨j1,by simp,by intro x hx y hy;simp at hy;subst hy;rintro rfl;exact b1 hx⟩) (by
     intro i hi;rcases List.mem_append.1 hi with h|h
     ·exact j2 i h
     ·simp at h;omega)
    simp at this;omega
   ·show(js++[j]).Nodup;rw[ia];exact⟨j1,by simp,by intro x hx y hy;simp at hy;subst hy;rintro rfl;exact b1 hx⟩
   ·intro i hi;rcases List.mem_append.1 hi with h|h
    ·exact j2 i h
    ·simp at h;omega
   ·simp[j3,List.filterMap_append,List.getElem?_eq_getElem b4]
   ·simp[j4,List.filterMap_append,Array.getElem?_eq_getElem hj]
   ··have s3:Sat θ (own r (.mapIter (some b) a0 a1 a0)::own b (.map es a0)::(Rest++R)) w1:=by
      rcases b9 with rfl|rfl
      ·exact s2.perm (List.Perm.swap _ _ _)
      ·exact(Sat.drew s2).perm (List.Perm.swap _ _ _)
     exact(Sat.setMap (o':=.mapIter (some b) a0 (a1.push es[j].born) a0) s3).perm (List.Perm.swap _ _ _))
def Ev.j9{it:Operand}{b r:Nat}{m done a1 : List (κ×α)}{p:κ×α}{Rest:LH}[hp:PickIt L r κ α kv enc b m a1 Rest](hd:a1 = done++[p])(hx:evE env it=some (ax r)) :
  Ev P L env (.entry it) ty (.tuple #[kv p.1,enc p.2]) :=
 Ev.mk (fun θ R _ w ea s _ _ _ _=>by
  subst hd;obtain⟨⟨es,a0,a2,js⟩,⟨e1,e2,e3,e4,e5,j1,j2,j3,j4⟩,s2⟩:=(s.perm (hp.perm.append_right R)).it_parts;dsimp only at e1 e3 e4 e5 j1 j2 j3 j4 s2;have hb:=s2.own_heap;have hr:=(s2.perm (List.Perm.swap _ _ _)).own_heap
  have a9:es.size=m.length:=by
   have:=congrArg List.length e1
   simpa using this
  rcases List.eq_nil_or_concat js with rfl|⟨a7,j,rfl⟩
  ·simp at j3
  ·have a3:j<m.length:=j2 j cc;have hj:j<es.size:=ab;rw[List.concat_eq_append] at j3 j4;simp[List.filterMap_append,List.getElem?_eq_getElem a3] at j3;simp[List.filterMap_append,Array.getElem?_eq_getElem hj] at j4;have a5:p=m[j]:=j3.2
   have a4:es[j].key=kv p.1∧es[j].val=enc p.2:=by
    have h5:=congrArg (fun l=>l[j]?) e1;simp only[List.getElem?_map,Array.getElem?_toList,Array.getElem?_eq_getElem hj,List.getElem?_eq_getElem a3] at h5;rw[a5];simpa using h5
   have a6:a2=(a7.filterMap (fun j=>(es[j]?).map (·.born))).toArray.push es[j].born:=by
    apply Array.ext';simp[j4]
   rw[a6] at hr;have:=run_entry_at (P:=P) w r b a0 _ es a0 es[j] hr hb cc e5
   rw[a4.1,a4.2] at this;simp[execOp,aL ea hx,this])
def Ent.k7{b r:Nat}{m done:List (κ×α)}:Ent (gE kv enc b m r done::L) (gmap kv enc b m::L):=fun θ R w s=>by
 obtain⟨⟨es,a0,a1,js⟩,⟨e1,e2,e3,e4,e5,_⟩,s2⟩:=Sat.it_parts s;exact Sat.c8 ((s2.perm (List.Perm.swap _ _ _)).tail) e1 e2 e3 e4 e5
