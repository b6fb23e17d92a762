/- Lemmas. -/
import Derived.Test.YtommnllbflbdmaaGreatDoorCataf
import Derived.Maps.RangeRun
import Derived.Laws.StructEq
import Derived.Laws.Strings2
set_option linter.all false
namespace Go.V
section
class TyIS (P:Program) (T:Nat) (n:outParam Nat):Prop where
 under:P.underlying T=some (.struct (P.fieldsOf T))
 free:P.stoodInHeld T=false
 guard:P.eqGuardType P.depth T=false
 flds : (P.fieldsOf T).toList.map (fun f => (f.name == "_", f.offset, P.underlying f.type)) = (List.range n).map fun i => (false, i, some (.int .i64))
 one:∀f∈(P.fieldsOf T).toList,∀w,(isAgg f.type).run P w=.ok false w
theorem TyIS.of{P:Program}{T n:Nat}(h1:P.underlying T=some (.struct (P.fieldsOf T)))(h2:P.stoodInHeld T=false)(h3:P.eqGuardType P.depth T=false)
  (h4 : (P.fieldsOf T).toList.map (fun f => (f.name == "_", f.offset, P.underlying f.type)) = (List.range n).map fun i => (false, i, some (.int .i64)))
  (_h5:(P.fieldsOf T).toList.all (fun f=>(P.info? f.type).isSome)=true):TyIS P T n :=
 ⟨h1,h2,h3,h4,fun f hf w=>by
  have h6 : (f.name == "_", f.offset, P.underlying f.type) ∈ (List.range n).map fun i => (false, i, some (TypeDesc.int .i64)) := by rw [← h4]; exact alStd0List_mem_map_of_mem hf
  obtain⟨i,_,hi⟩:=List.mem_map.1 h6;simp only[Prod.mk.injEq] at hi;have hu:=hi.2.2.symm;simp[isAgg,run_underlying hu]⟩
def iJ{P:Program}{T:Nat}{cs:Array Value}{i:Nat}{v:Value}{w:World}(h1:∀w,(isAgg T).run P w=.ok false w)(h:cs[i]? = some v):(part T cs i).run P w=.ok v w:=by
 simp[part,h1 w,h]
def eqFields_int {P : Program} {w : World} {d : Nat} {xs ys : List Int} : ∀ (fs : List Field) (i : Nat), fs.map (fun f => (f.name == "_", f.offset, P.underlying f.type)) = (List.range' i fs.length).map (fun i => (false, i, some (TypeDesc.int .i64))) →
  (∀f∈fs,∀w,(isAgg f.type).run P w=.ok false w)→i+fs.length=xs.length→xs.length=ys.length →
  (Op.eqFields (d+1) (xs.map (Value.int .i64)).toArray (ys.map (Value.int .i64)).toArray fs).run P w=.ok (decide (xs.drop i=ys.drop i)) w:=by
 intro fs;induction fs with
 | nil =>
  intro i _ _ h2 h3;simp only[cU] at h2;rw[bM ab,bM ab];simp[Op.eqFields]
 | cons f fs ih =>
  intro i h1 ho h2 h3;simp only [bE] at h2;simp only [bY,bE,List.range'_succ,List.cons.injEq,Prod.mk.injEq] at h1;obtain ⟨⟨hn,hoff,hu⟩,hr⟩:=h1;have hn' : f.name ≠ "_" := by simpa using hn
  have hix:i<xs.length:=ab;have hiy:i<ys.length:=ab;have hf:=ho f (au ..);have e1:(xs.map (Value.int .i64)).toArray[i]? = some (ac xs[i]):=by simp[hix]
  have e2:(ys.map (Value.int .i64)).toArray[i]? = some (ac ys[i]):=by simp[hiy]
  have ih':=ih (i+1) hr (fun g hg=>ho g (aw _ hg)) ab h3;simp only[Op.eqFields,if_pos hn',hoff,Sem.run_bind,iJ hf e1,iJ hf e2,Result.andThen_ok,run_equalIn_int w d f.type .i64 .i64 xs[i] ys[i] hu];rw[dO hix,dO hiy];by_cases he:xs[i]=ys[i]
  ·simp only[he,beq_self_eq_true,Bool.not_true,gq,if_false,ih',List.cons.injEq,true_and]
  ·have hb:(xs[i] == ys[i])=false:=by simpa using he
   simp only[hb,Bool.not_false,if_true,Sem.run_pure,List.cons.injEq,he,false_and,decide_false]
def mO{P:Program}{T n:Nat}[h:TyIS P T n]{w:World}{d:Nat}{xs ys:List Int}(hx:xs.length=n)(hy:ys.length=n) :
  (Op.equalIn (d+2) T (.agg (xs.map (Value.int .i64)).toArray) (.agg (ys.map (Value.int .i64)).toArray)).run P w=.ok (decide (xs=ys)) w:=by
 rw[run_equalIn_struct w (d+1) T _ _ h.under h.free]
 have hl:(P.fieldsOf T).toList.length=n:=by
  have:=congrArg List.length h.flds
  simpa using this
 have:=eqFields_int (P:=P) (w:=w) (d:=d) (xs:=xs) (ys:=ys) (P.fieldsOf T).toList 0 (by rw[hl,←List.range_eq_range'];exact h.flds) h.one ab ab
 simpa using this
class IntsOf (cs:LV) (xs:outParam (List Int)):Prop where
 eq:cs=xs.map (Value.int .i64)
instance:IntsOf [] []:=⟨rfl⟩
instance (a:Int)(cs:LV)(xs:List Int)[h:IntsOf cs xs]:IntsOf (ac a::cs) (a::xs):=⟨by rw[h.eq];rfl⟩
section
variable {P:Program}{L:LH}{env:Env}{ty:TypeId}
def Ev.A7{t yt:TypeId}{x y:Operand}{n:Nat}[h:TyIS P t n]{cs ds:LV}(hx:evE env x=some (.agg cs.toArray))(hy:evE env y=some (.agg ds.toArray)){xs ys:List Int}[hc:IntsOf cs xs][hd:IntsOf ds ys](hl:xs.length=n)(a0 : ys.length=n) :
  Ev P L env (.binOp .eql t x y yt) ty (.bool (dB (xs=ys))) :=
 Ev.mk (fun θ R _ w ea s _ _ _ _=>by
  rw[hc.eq] at hx;rw[hd.eq] at hy;have h1:=mO (P:=P) (T:=t) (w:=w) (d:=9998) hl a0;simp[execOp,aP ea hx,aP ea hy,run_eqGuard_agg w .eql t x y _ _ h.guard,run_eql_struct,h1,eY])
def Ev.p9{t yt:TypeId}{x y:Operand}{n:Nat}[h:TyIS P t n]{cs ds:LV}(hx:evE env x=some (.agg cs.toArray))(hy:evE env y=some (.agg ds.toArray)){xs ys:List Int}[hc:IntsOf cs xs][hd:IntsOf ds ys](hl:xs.length=n)(a0 : ys.length=n) :
  Ev P L env (.binOp .neq t x y yt) ty (.bool (dB (¬xs=ys))) :=
 Ev.mk (fun θ R _ w ea s _ _ _ _=>by
  rw[hc.eq] at hx;rw[hd.eq] at hy;have h1:=mO (P:=P) (T:=t) (w:=w) (d:=9998) hl a0;simp[execOp,aP ea hx,aP ea hy,run_eqGuard_agg w .neq t x y _ _ h.guard,run_neq_struct,h1,eY])
end
class KeyT (P:Program) (K:TypeId) {κ:Type} [DecidableEq κ] (kv:κ→Value):Prop where
 inj:∀a b,kv a=kv b→a=b
 check:∀e k w,(Instr.checkKey e 10000 K (kv k)).run P w=.ok () w
 bits:∀k,Instr.sameBits 10000 (kv k) (kv k)=true
 find:∀(k:κ) (es:List MapEntry) (ks:List κ) w,es.map (·.key)=ks.map kv→(Instr.findKey K (kv k) es).run P w=.ok ((ks.findIdx? (fun q=>q == k)).bind fun j=>(es[j]?).map fun e=>(j,e.val)) w
def nH{κ:Type}[DecidableEq κ]{kv:κ→Value}{d:TypeDesc}(hs:∀a b:κ,Instr.sameNow d (kv a) (kv b)=some (decide (a=b)))(k:κ):∀(es:List MapEntry) (ks:List κ) (i:Nat),es.map (·.key)=ks.map kv →
  Instr.findNow d (kv k) es i=some ((ks.findIdx? (fun q=>q == k)).bind fun j=>(es[j]?).map fun e=>(i+j,e.val))
 | [],[],i,_=>by simp[Instr.findNow]
 | [],_::_,_,h=>by simp at h
 | _::_,[],_,h=>by simp at h
 | e::es,p::ks,i,h=>by
  simp only[bY,List.cons.injEq] at h;obtain⟨h1,h3⟩:=h;have ih:=nH hs k es ks (i+1) h3;simp only[Instr.findNow,h1,hs];by_cases hk:k=p
  ·subst hk;simp[List.findIdx?_cons]
  ·have a0 : (p == k)=false:=by simpa using fun h=>hk h.symm
   simp only[hk,decide_false,ih,List.findIdx?_cons,a0];cases hf:List.findIdx? (fun q=>q == k) ks<;>simp;rename_i j;rw[show i+1+j=i+(j+1) by omega]
def lJ{P:Program}{K:TypeId}{κ:Type}[DecidableEq κ]{kv:κ→Value}{w:World}(hs:∀a b:κ,(Op.equal K (kv a) (kv b)).run P w=.ok (decide (a=b)) w)(k:κ):∀(es:List MapEntry) (ks:List κ) (i:Nat),es.map (·.key)=ks.map kv →
  (Instr.findAsking K (kv k) es i).run P w=.ok ((ks.findIdx? (fun q=>q == k)).bind fun j=>(es[j]?).map fun e=>(i+j,e.val)) w
 | [],[],i,_=>by simp[Instr.findAsking]
 | [],_::_,_,h=>by simp at h
 | _::_,[],_,h=>by simp at h
 | e::es,p::ks,i,h=>by
  simp only[bY,List.cons.injEq] at h;obtain⟨h1,h3⟩:=h;have ih:=lJ hs k es ks (i+1) h3;simp only[Instr.findAsking,h1,Sem.run_bind,hs,Result.andThen_ok];by_cases hk:k=p
  ·subst hk;simp[List.findIdx?_cons]
  ·have a0 : (p == k)=false:=by simpa using fun h=>hk h.symm
   simp only[hk,decide_false,gq,if_false,ih,List.findIdx?_cons,a0];cases hf:List.findIdx? (fun q=>q == k) ks<;>simp;rename_i j;rw[show i+1+j=i+(j+1) by omega]
def kvI(k:Int):Value:=ac k
def kvS(s:ByteArray):Value:=.string s
def kvP(p:Int×Int):Value:=.agg ([p.1,p.2].map (Value.int .i64)).toArray
theorem keyI{P:Program}{K:TypeId}[h:TyInt P K .i64]:KeyT P K kvI where
 inj a b h:=by simpa [kvI] using h
 check e k w:=by
  have:∀m,(Instr.checkKey e (m+1) K (kvI k)).run P w=.ok () w:=fun m=>by simp[Instr.checkKey,kvI,run_underlying h.under]
  exact this 9999
 bits k:=by
  show Instr.sameBits (9999+1) (ac k) (ac k)=true;simp[Instr.sameBits]
 find k es ks w he:=by
  have:=nH (kv:=kvI) (d:=.int .i64) (fun a b=>by simp[kvI,Instr.sameNow];rfl) k es ks 0 he
  simp only[Instr.findKey,Sem.run_bind,run_underlying h.under,Result.andThen_ok,this,Sem.run_pure,dj]
theorem keyS{P:Program}{K:TypeId}[h:TyStr P K]:KeyT P K kvS where
 inj a b h:=by simpa [kvS] using h
 check e k w:=by
  have:∀m,(Instr.checkKey e (m+1) K (kvS k)).run P w=.ok () w:=fun m=>by simp[Instr.checkKey,kvS,run_underlying h.under]
  exact this 9999
 bits k:=by
  show Instr.sameBits (9999+1) (.string k) (.string k)=true;simp only[Instr.sameBits,beq_toListBytes,beq_self_eq_true]
 find k es ks w he:=by
  have:=nH (kv:=kvS) (d:=.string) (fun a b=>by simp only[kvS,Instr.sameNow,beq_toListBytes,yb]) k es ks 0 he
  simp only[Instr.findKey,Sem.run_bind,run_underlying h.under,Result.andThen_ok,this,Sem.run_pure,dj]
def Av{P:Program}{K n:Nat}[h:TyIS P K n]{e:Bool}{xs:List Int}{w:World}(hx:xs.length=n):(Instr.checkKey e 10000 K (.agg (xs.map (Value.int .i64)).toArray)).run P w=.ok () w:=by
 have hl:(P.fieldsOf K).toList.length=n:=by
  have:=congrArg List.length h.flds
  simpa using this
 have main:∀k:Nat,(∀T n,P.underlying T=some (TypeDesc.int .i64)→(Instr.checkKey e k T (ac n)).run P w=.ok () w)→(Instr.checkKey e (k+1) K (.agg (xs.map (Value.int .i64)).toArray)).run P w=.ok () w:=by
  intro k hk
  have aux : ∀ (fs : List Field) (i : Nat), fs.map (fun f => (f.name == "_", f.offset, P.underlying f.type)) = (List.range' i fs.length).map (fun i => (false, i, some (TypeDesc.int .i64))) →
    (∀f∈fs,∀w,(isAgg f.type).run P w=.ok false w)→i+fs.length=xs.length →
    (forIn fs PUnit.unit fun f r=>(do
     if f.name ≠ "_" then
      Instr.checkKey e k f.type (← part f.type (xs.map (Value.int .i64)).toArray f.offset)
      pure (ForInStep.yield PUnit.unit)
     else pure (ForInStep.yield PUnit.unit):Sem (ForInStep PUnit))).run P w=.ok PUnit.unit w:=by
   intro fs;induction fs with
   | nil=>intro i _ _ _;simp
   | cons f fs ih =>
    intro i h1 ho h2;simp only [bE] at h2;simp only [bY,bE,List.range'_succ,List.cons.injEq,Prod.mk.injEq] at h1;obtain ⟨⟨hn,hoff,hu⟩,hr⟩:=h1;have hn' : f.name ≠ "_" := by simpa using hn
    have hix:i<xs.length:=ab;have hf:=ho f (au ..);have e1:(xs.map (Value.int .i64)).toArray[i]? = some (ac xs[i]):=by simp[hix]
    have ih':=ih (i+1) hr (fun g hg=>ho g (aw _ hg)) ab;rw[List.forIn_cons];simp only[if_pos hn',hoff,Sem.run_bind,iJ hf e1,Result.andThen_ok,hk _ _ hu,Sem.run_pure];exact ih'
  have:=aux (P.fieldsOf K).toList 0 (by rw[hl,←List.range_eq_range'];exact h.flds) h.one ab
  simp only[Instr.checkKey,Sem.run_bind,run_underlying h.under,Result.andThen_ok];rw[←Array.forIn_toList];simp at this ⊢;rw[this];rfl
 exact main 9999 fun T n hT=>by
  have:∀m,(Instr.checkKey e (m+1) T (ac n)).run P w=.ok () w:=fun m=>by simp[Instr.checkKey,run_underlying hT]
  exact this 9998
theorem keyP{P:Program}{K:TypeId}[h:TyIS P K 2]:KeyT P K kvP where
 inj a b h:=by
  simp[kvP] at h;exact Prod.ext h.1 h.2
 check e k w:=Av (xs:=[k.1,k.2]) rfl
 bits k:=by
  have:∀n,Instr.sameBits (n+1) (kvP k) (kvP k)=true:=fun n=>by simp[Instr.sameBits,kvP]
  exact this 9999
 find k es ks w he:=by
  have hq:∀a b:Int×Int,(Op.equal K (kvP a) (kvP b)).run P w=.ok (decide (a=b)) w:=by
   intro a b;have:=mO (P:=P) (T:=K) (w:=w) (d:=9998) (xs:=[a.1,a.2]) (ys:=[b.1,b.2]) rfl rfl
   have e:decide ([a.1,a.2]=[b.1,b.2])=decide (a=b):=by
    obtain⟨a1,a2⟩:=a;obtain⟨b1,b2⟩:=b;simp
   rw[←e];exact this
  have h2:=lJ (P:=P) (K:=K) (w:=w) hq k es ks 0 he;simp only[Instr.findKey,Sem.run_bind,run_underlying h.under,Result.andThen_ok];cases es with
  | nil =>
   cases ks with
   | nil=>simp[Instr.findNow]
   | cons _ _=>simp at he
  | cons x es =>
   cases ks with
   | nil=>simp at he
   | cons q ks =>
    have hk:x.key=kvP q:=by simp at he;exact he.1
    have hn:Instr.findNow (.struct (P.fieldsOf K)) (kvP k) (x::es) 0=none:=by simp[Instr.findNow,Instr.sameNow]
    rw[hn];simp only[dj] at h2;exact h2
class KeyVal {κ:Type} (kv:κ→Value) (v:Value) (k:outParam κ):Prop where
 eq:v=kv k
instance (n:Int):KeyVal kvI (ac n) n:=⟨rfl⟩
instance (s:ByteArray):KeyVal kvS (.string s) s:=⟨rfl⟩
instance (a b:Int):KeyVal kvP (.agg #[ac a,ac b]) (a,b):=⟨rfl⟩
instance (n:Int):KeyVal kvI (kvI n) n:=⟨rfl⟩
def gmap{κ α:Type}(kv:κ→Value)(enc:α→Value)(b:Nat)(m:List (κ×α)):HP:=fun _ h =>
 ∃es a0,h b=some (.map es a0)∧es.toList.map (fun e=>(e.key,e.val))=m.map (fun p=>(kv p.1,enc p.2))∧(m.map (·.1)).Nodup∧es.size≤a0∧(∀e∈es,e.born<a0)∧(es.toList.map (·.born)).Nodup
def itOk{κ α:Type}(kv:κ→Value)(enc:α→Value)(m done:List (κ×α))(x:Array MapEntry×Nat×Array Nat×List Nat):Prop :=
 x.1.toList.map (fun e=>(e.key,e.val))=m.map (fun p=>(kv p.1,enc p.2))∧(m.map (·.1)).Nodup∧x.1.size≤x.2.1∧(∀e∈x.1,e.born<x.2.1)∧(x.1.toList.map (·.born)).Nodup ∧
  x.2.2.2.Nodup∧(∀j∈x.2.2.2,j<m.length)∧done=x.2.2.2.filterMap (fun j=>m[j]?)∧x.2.2.1.toList=x.2.2.2.filterMap (fun j=>(x.1[j]?).map (·.born))
def jv{κ α:Type}(kv:κ→Value)(enc:α→Value)(b:Nat)(m:List (κ×α))(r:Nat)(done:List (κ×α)):HP:=hex fun x:Array MapEntry×Nat×Array Nat×List Nat =>
 cY [dy (itOk kv enc m done x),own b (.map x.1 x.2.1),own r (.mapIter (some b) x.2.1 x.2.2.1 x.2.1)]
class PickG (L:LH) (b:Nat) (κ α:outParam Type) (kv:outParam (κ→Value)) (enc:outParam (α→Value)) (m:outParam (List (κ×α))) (R:outParam (LH)):Prop where
 perm:L.Perm (gmap kv enc b m::R)
instance {κ α:Type}(L:LH)(b:Nat)(kv:κ→Value)(enc:α→Value)(m:List (κ×α)):PickG (gmap kv enc b m::L) b κ α kv enc m L:=⟨List.Perm.refl _⟩
instance {κ α:Type}(A:HP)(L:LH)(b:Nat)(kv:κ→Value)(enc:α→Value)(m:List (κ×α))(R:LH)[h:PickG L b κ α kv enc m R]:PickG (A::L) b κ α kv enc m (A::R):=⟨(h.perm.cons A).trans (List.Perm.swap _ _ _)⟩
class PickIt (L:LH) (r:Nat) (κ α:outParam Type) (kv:outParam (κ→Value)) (enc:outParam (α→Value)) (b:outParam Nat) (m done:outParam (List (κ×α))) (R:outParam (LH)):Prop where
 perm:L.Perm (jv kv enc b m r done::R)
instance {κ α:Type}(L:LH)(b r:Nat)(kv:κ→Value)(enc:α→Value)(m done:List (κ×α)):PickIt (jv kv enc b m r done::L) r κ α kv enc b m done L:=⟨List.Perm.refl _⟩
section mapsP
variable {κ α:Type}
def Sat.gmap_parts{θ:Th}{kv:κ→Value}{enc:α→Value}{b:Nat}{m:List (κ×α)}{L:LH}{w:World}(s:Sat θ (gmap kv enc b m::L) w) :
  ∃es a0,es.toList.map (fun e=>(e.key,e.val))=m.map (fun p=>(kv p.1,enc p.2))∧(m.map (·.1)).Nodup∧es.size≤a0∧(∀e∈es,e.born<a0)∧(es.toList.map (·.born)).Nodup∧Sat θ (own b (.map es a0)::L) w:=by
 obtain⟨ok,ι,h,a,b1,c,ι₀,h₁,h₂,d1,d2,d3,d4,⟨es,a0,e1,e2,e3,e4,e5,e6⟩,d6⟩:=s;exact⟨es,a0,e2,e3,e4,e5,e6,ok,ι,h,a,b1,c,ι₀,h₁,h₂,d1,d2,d3,d4,e1,d6⟩
def Sat.e7{θ:Th}{kv:κ→Value}{enc:α→Value}{b:Nat}{m:List (κ×α)}{L:LH}{w:World}{es:Array MapEntry}{a0:Nat}(s:Sat θ (own b (.map es a0)::L) w)
  (h1:es.toList.map (fun e=>(e.key,e.val))=m.map (fun p=>(kv p.1,enc p.2))) (h2:(m.map (·.1)).Nodup) (h3:es.size≤a0) (h4:∀e∈es,e.born<a0) (h5:(es.toList.map (·.born)).Nodup):Sat θ (gmap kv enc b m::L) w:=by
 obtain⟨ok,ι,h,a,b1,c,ι₀,h₁,h₂,d1,d2,d3,d4,d5,d6⟩:=s;exact⟨ok,ι,h,a,b1,c,ι₀,h₁,h₂,d1,d2,d3,d4,⟨es,a0,d5,h1,h2,h3,h4,h5⟩,d6⟩
def lq{kv:κ→Value}{enc:α→Value}{b:Nat}{m:List (κ×α)}{L R:LH}[hp:PickG L b κ α kv enc m R]:∀θ R w,Sat θ (L++R) w→(m.map (·.1)).Nodup:=fun θ R w s=>by
 obtain⟨es,a0,e1,e2,_⟩:=(s.perm (hp.perm.append_right R)).gmap_parts;exact e2
end mapsP
section maps
variable {κ α:Type}[DecidableEq κ]
def gins(m:List (κ×α))(k:κ)(a:α):List (κ×α):=if m.any (fun p=>p.1 == k) then m.map (fun p=>if p.1=k then(k,a) else p) else m++[(k,a)]
def gera(m:List (κ×α))(k:κ):List (κ×α):=m.filter (fun p=>!(p.1 == k))
def sQ{m:List (κ×α)}{k:κ}:(m.map (·.1)).findIdx? (fun q=>q == k)=m.findIdx? (fun p=>p.1 == k):=by
 induction m with
 | nil=>rfl
 | cons p m ih=>simp only[bY,List.findIdx?_cons,ih]
def nR{m:List (κ×α)}{k:κ}:(m.findIdx? (fun p=>p.1 == k)).bind (fun j=>m[j]?.map (·.2))=m.lookup k:=by
 induction m with
 | nil=>simp
 | cons p m ih =>
  obtain⟨q,x⟩:=p;simp only[List.findIdx?_cons,dw];by_cases hk:k=q
  ·subst hk;simp
  ·have hb:(k == q)=false:=by simpa using hk
   have a0 : (q == k)=false:=by simpa using fun h=>hk h.symm
   simp only[hb,a0,←ih];cases List.findIdx? (fun p=>p.1 == k) m<;>simp
def rE{P:Program}{K:TypeId}{kv:κ→Value}[hk:KeyT P K kv]{enc:α→Value}{es:Array MapEntry}{m:List (κ×α)}(k:κ)(w:World)(he:es.toList.map (fun e=>(e.key,e.val))=m.map (fun p=>(kv p.1,enc p.2))) :
  (Instr.findKey K (kv k) es.toList).run P w=.ok ((m.findIdx? (fun p=>p.1 == k)).bind fun j=>(m[j]?).map fun p=>(j,enc p.2)) w:=by
 have h1:es.toList.map (·.key)=(m.map (·.1)).map kv:=by
  have:=congrArg (List.map Prod.fst) he
  simpa [eM,Function.comp_def] using this
 rw[hk.find k es.toList (m.map (·.1)) w h1,sQ];congr 1;cases m.findIdx? (fun p=>p.1 == k) with
 | none=>rfl
 | some j =>
  simp only[Option.bind_some];have h2:=congrArg (fun l=>l[j]?) he;simp only[List.getElem?_map] at h2;cases hq:es.toList[j]? with
  | none =>
   rw[hq] at h2;cases hm:m[j]? with
   | none=>rfl
   | some p=>rw[hm] at h2;simp at h2
  | some q =>
   rw[hq] at h2;cases hm:m[j]? with
   | none=>rw[hm] at h2;simp at h2
   | some p=>rw[hm] at h2;simp at h2;simp[h2.2]
def me{m:List (κ×α)}{k:κ}{a:α}(h:(m.map (·.1)).Nodup):((gins m k a).map (·.1)).Nodup:=by
 unfold gins;split
 ·rw[eM]
  have:(fun p:κ×α=>(if p.1=k then(k,a) else p).1)=(·.1):=by
   funext p;split
   ·rename_i h;exact h.symm
   ·rfl
  show((m.map ((·.1) ∘ fun p=>if p.1=k then(k,a) else p))).Nodup;rw[show((·.1) ∘ fun p:κ×α=>if p.1=k then(k,a) else p)=(fun p:κ×α=>(if p.1=k then(k,a) else p).1) from rfl,this];exact h
 ·rename_i hn;rw[aR,gX];refine⟨h,by simp,?_⟩;intro x hx y hy;simp at hy;subst hy;rintro rfl;apply hn;obtain⟨p,hp,rfl⟩:=List.mem_map.1 hx;exact List.any_eq_true.2 ⟨p,hp,by simp⟩
def ly{k:κ}{a:α}:∀{m:List (κ×α)} {j:Nat},(m.map (·.1)).Nodup→m.findIdx? (fun p=>p.1 == k)=some j→m.map (fun p=>if p.1=k then(k,a) else p)=m.set j (k,a)
 | [],j,_,h=>by simp at h
 | p::m,j,hn,h=>by
  simp only[bY,gi] at hn;rw[List.findIdx?_cons] at h;by_cases hk:p.1=k
  ·simp[hk] at h;subst h;simp only[bY,hk,if_true,List.set_cons_zero,List.cons.injEq,true_and];rw[dm (g:=id),List.map_id];intro q hq;have:q.1≠k:=fun e=>hn.1 (by rw[hk,←e];exact alStd0List_mem_map_of_mem hq);simp[this]
  ·have hb:(p.1 == k)=false:=by simpa using hk
   simp only[hb] at h;obtain⟨i,hi,rfl⟩:=Option.map_eq_some_iff.1 h;simp only[bY,hk,if_false,List.set_cons_succ,List.cons.injEq,true_and];exact ly hn.2 hi
def xv{k:κ}:∀{m:List (κ×α)} {j:Nat},(m.map (·.1)).Nodup→m.findIdx? (fun p=>p.1 == k)=some j→gera m k=m.eraseIdx j
 | [],j,_,h=>by simp at h
 | p::m,j,hn,h=>by
  simp only[bY,gi] at hn;rw[List.findIdx?_cons] at h;by_cases hk:p.1=k
  ·simp[hk] at h;subst h;simp only[gera,List.filter_cons,hk,beq_self_eq_true,Bool.not_true,gq,if_false,List.eraseIdx_zero,List.tail_cons];apply List.filter_eq_self.2;intro q hq;have:q.1≠k:=fun e=>hn.1 (by rw[hk,←e];exact alStd0List_mem_map_of_mem hq);simp[this]
  ·have hb:(p.1 == k)=false:=by simpa using hk
   simp only[hb] at h;obtain⟨i,hi,rfl⟩:=Option.map_eq_some_iff.1 h;have ih:=xv hn.2 hi;simp only[gera,List.filter_cons,hb,Bool.not_false,if_true,List.eraseIdx_cons_succ,List.cons.injEq,true_and];exact ih
def hJ{m:List (κ×α)}{k q:κ}{a:α}:(gins m k a).lookup q=if q=k then some a else m.lookup q:=by
 unfold gins;split
 ·rename_i h;induction m with
  | nil=>simp at h
  | cons p m ih =>
   obtain⟨r,x⟩:=p;simp only[bY,dw];by_cases hr:r=k
   ·subst hr;simp only[if_true,dw];by_cases hq:q=r
    ·subst hq;simp
    ·have hb:(q == r)=false:=by simpa using hq
     simp only[hb,hq,if_false];by_cases hm:m.any (fun p=>p.1 == r)=true
     ·have:=ih hm;simp only[hq,if_false] at this;exact this
     ·rw[dm (g:=id),List.map_id];intro p hp;have:p.1≠r:=fun e=>hm (List.any_eq_true.2 ⟨p,hp,by simp[e]⟩);simp[this]
   ·have hm:m.any (fun p=>p.1 == k)=true:=by
     simp only[List.any_cons] at h;have:(r == k)=false:=by simpa using hr
     simpa [this] using h
    simp only[hr,if_false,dw];by_cases hq:q=r
    ·subst hq;simp[hr]
    ·have hb:(q == r)=false:=by simpa using hq
     simp only[hb];exact ih hm
 ·rename_i h;rw[List.lookup_append];by_cases hq:q=k
  ·subst hq
   have:m.lookup q=none:=by
    rw[←nR]
    have:m.findIdx? (fun p=>p.1 == q)=none:=by
     rw[List.findIdx?_eq_none_iff];intro p hp;simp only[Bool.not_eq_true] at h;have:=List.any_eq_false.1 h p hp
     simpa using this
    simp[this]
   simp[this]
  ·have hb:(q == k)=false:=by simpa using hq
   simp[dw,hb,hq]
def Ah{m:List (κ×α)}{k q:κ}:(gera m k).lookup q=if q=k then none else m.lookup q:=by
 induction m with
 | nil=>simp[gera]
 | cons p m ih =>
  obtain⟨r,x⟩:=p;simp only[gera,List.filter_cons] at ih ⊢;by_cases hr:r=k
  ·subst hr;simp only[beq_self_eq_true,Bool.not_true,gq,if_false,ih,dw];by_cases hq:q=r
   ·subst hq;simp
   ·have hb:(q == r)=false:=by simpa using hq
    simp[hb,hq]
  ·have hb:(r == k)=false:=by simpa using hr
   simp only[hb,Bool.not_false,if_true,dw];by_cases hq:q=r
   ·subst hq;simp[hr]
   ·have a0:(q == r)=false:=by simpa using hq
    simp only[a0];exact ih
def jl{m:List (κ×α)}{k:κ}{a:α}(h:m.lookup k=some a):(k,a)∈m:=by
 induction m with
 | nil=>cases h
 | cons p m ih =>
  obtain⟨q,x⟩:=p;rw[dw] at h;by_cases hk:k=q
  ·subst hk;simp at h;subst h;exact au ..
  ·have hb:(k == q)=false:=by simpa using hk
   simp only[hb] at h;exact aw _ (ih h)
def lH{m:List (κ×α)}(hn:(m.map (·.1)).Nodup){k:κ}{a:α}(h:(k,a)∈m):m.lookup k=some a:=by
 induction m with
 | nil=>cases h
 | cons p m ih =>
  obtain⟨q,x⟩:=p;simp only[bY,gi] at hn;rw[dw];rcases List.mem_cons.1 h with e|h'
  ·simp only[Prod.mk.injEq] at e;obtain⟨rfl,rfl⟩:=e;simp
  ·have:k≠q:=fun e=>hn.1 (by rw[←e];exact alStd0List_mem_map_of_mem (f:=(·.1)) h');have hb:(k == q)=false:=by simpa using this
   simp only[hb];exact ih hn.2 h'
end maps
section ops
variable {P:Program}{L:LH}{env:Env}{ty:TypeId}{κ α:Type}
class TyG (P:Program) (T:Nat) (K E:outParam Nat) (z:outParam Value):Prop where
 under:P.underlying T=some (.map K E)
 zero:(P.info? E).map (·.zero)=some (some z)
def Ef.e8{t K E:TypeId}{z:Value}{o:Option Operand}[ht:TyG P t K E z](kv:κ→Value)(enc:α→Value)(ho:o=none∨∃x k n,o=some x∧evE env x=some (.int k n)∧0≤n):Ef P L env (.makeMap t o) ty (fun v L'=>∃b,v=.map (some b)∧L' = gmap kv enc b []::L) :=
 Ef.val (fun θ R a w ea s a0 pos af g=>⟨_,w.alloc (.map #[] 0),_,by
  rcases ho with rfl|⟨x,k,n,rfl,hx,hn⟩
  ·simp[execOp,Instr.makeMap]
  ·simp[execOp,Instr.makeMap,aP ea hx,run_underlying ht.under,asInt,asIntOf],⟨_,rfl,rfl⟩,Sat.e7 s.alloc bH bH bH bH bH⟩)
variable [DecidableEq κ]
def Ev.A5{t:TypeId}{x y:Operand}{b K E:Nat}{z a2:Value}{kv:κ→Value}{enc:α→Value}{m:List (κ×α)}{Rest:LH}{k:κ}[ht:TyG P t K E z][hk:KeyT P K kv][hp:PickG L b κ α kv enc m Rest](hx:evE env x=some (.map (some b)))(hy:evE env y=some a2)[a4:KeyVal kv a2 k](ok:Bool) :
  Ev P L env (.lookup t x y ok) ty (if ok then .tuple #[((m.lookup k).map enc).getD z,.bool (m.lookup k).isSome] else((m.lookup k).map enc).getD z) :=
 Ev.mk (fun θ R _ w ea s _ _ _ _=>by
  obtain rfl:=a4.eq;obtain⟨es,a0,e1,e2,e3,e4,e5,s2⟩:=(s.perm (hp.perm.append_right R)).gmap_parts;have hb:=s2.own_heap;have hf:=rE (P:=P) (K:=K) k w e1;have a1:(getObj b).run P w=.ok (.map es a0) w:=by simp[getObj,Sem.run,hb]
  have h3:=ht.zero;rw[←nR];cases hi:P.info? E with
  | none=>rw[hi] at h3;cases h3
  | some i =>
   rw[hi] at h3;simp at h3;cases hj:m.findIdx? (fun p=>p.1 == k) with
   | none =>
    rw[hj] at hf;simp[execOp,aP ea hx,aP ea hy,Instr.lookup,run_underlying ht.under,a1,hk.check,hf,zeroValue,typeInfo,hi,h3]
   | some j =>
    have a3:=(List.findIdx?_eq_some_iff_getElem.1 hj).1;rw[hj] at hf;simp[List.getElem?_eq_getElem a3] at hf;simp[execOp,aP ea hx,aP ea hy,Instr.lookup,run_underlying ht.under,a1,hk.check,hf,List.getElem?_eq_getElem a3])
def Ev.d8{t:TypeId}{x y:Operand}{b K E:Nat}{z a0:Value}{kv:κ→Value}{enc:α→Value}{m:List (κ×α)}{Rest:LH}{k:κ}[ht:TyG P t K E z][hk:KeyT P K kv][hp:PickG L b κ α kv enc m Rest](hx:evE env x=some (.map (some b)))(hy:evE env y=some a0)[a1:KeyVal kv a0 k] :
  Ev P L env (.lookup t x y false) ty (((m.lookup k).map enc).getD z):=by
 have:=Ev.A5 (P:=P) (L:=L) (ty:=ty) (t:=t) hx hy false
 simpa using this
def Ev.m6{t:TypeId}{x y:Operand}{b K E:Nat}{z a0:Value}{kv:κ→Value}{enc:α→Value}{m:List (κ×α)}{Rest:LH}{k:κ}[ht:TyG P t K E z][hk:KeyT P K kv][hp:PickG L b κ α kv enc m Rest](hx:evE env x=some (.map (some b)))(hy:evE env y=some a0)[a1:KeyVal kv a0 k] :
  Ev P L env (.lookup t x y true) ty (.tuple #[((m.lookup k).map enc).getD z,.bool (m.lookup k).isSome]):=by
 have:=Ev.A5 (P:=P) (L:=L) (ty:=ty) (t:=t) hx hy true
 simpa using this
def Ef.e9{t:TypeId}{x y z' : Operand}{b K E:Nat}{z v a4:Value}{kv:κ→Value}{enc:α→Value}{m:List (κ×α)}{Rest:LH}{k:κ}(e:α)[ht:TyG P t K E z][hk:KeyT P K kv][hp:PickG L b κ α kv enc m Rest](hx:evE env x=some (.map (some b)))(hy:evE env y=some a4)(hz:evE env z' = some v)[b1:KeyVal kv a4 k](hv:v=enc e)
  : Ef P L env (.mapUpdate t x y z') ty (fun _ L'=>L' = gmap kv enc b (gins m k e)::Rest) :=
 Ef.skip (fun θ R a w ea s b4 pos af g=>by
  subst hv;obtain rfl:=b1.eq;obtain⟨es,a0,e1,e2,e3,e4,e5,s2⟩:=(s.perm (hp.perm.append_right R)).gmap_parts;have hb:=s2.own_heap;have hf:=rE (P:=P) (K:=K) k w e1;have a2:(getObj b).run P w=.ok (.map es a0) w:=by simp[getObj,Sem.run,hb]
  have b0:=me (k:=k) (a:=e) e2;cases hj:m.findIdx? (fun p=>p.1 == k) with
  | none =>
   rw[hj] at hf;simp only[Option.bind_none] at hf
   have b2:m.any (fun p=>p.1 == k)=false:=by
    rw[List.findIdx?_eq_none_iff] at hj;simpa using hj
   refine⟨_,_,?_,rfl,Sat.e7 (s2.setMap (o':=.map (es.push { key:=kv k,val:=enc e,born:=a0 }) (a0+1))) ?_ b0 ?_ ?_ ?_⟩
   ·simp[execOp,aP ea hx,aP ea hy,aP ea hz,Instr.mapUpdate,run_underlying ht.under,a2,hk.check,hf,iG hb]
   ·simp[e1,gins,b2]
   ·simp;omega
   ·intro x hx;rcases Array.mem_push.1 hx with hx|rfl
    ·have:=e4 x hx;omega
    ·simp
   ·simp only[Array.toList_push,aR,bY,fk];rw[gX];refine⟨e5,by simp,?_⟩;intro x hx y hy;simp at hy;subst hy;obtain⟨q,hq,rfl⟩:=List.mem_map.1 hx;have:=e4 q (by simpa using hq)
    omega
  | some j =>
   have a5:m.any (fun p=>p.1 == k)=true:=by
    obtain⟨a7,h1,_⟩:=List.findIdx?_eq_some_iff_getElem.1 hj;exact List.any_eq_true.2 ⟨m[j],eO a7,h1⟩
   have a8:=ly (a:=e) e2 hj;obtain⟨a1,a9,_⟩:=List.findIdx?_eq_some_iff_getElem.1 hj;rw[hj] at hf;simp[List.getElem?_eq_getElem a1] at hf
   have b5:es.size=m.length:=by
    have:=congrArg List.length e1
    simpa using this
   have a6:((es[j]?).map (·.key)).getD (kv k)=kv k:=by
    have h5:=congrArg (fun l=>l[j]?) e1;simp only[List.getElem?_map,List.getElem?_eq_getElem a1,Array.getElem?_toList] at h5;rw[Array.getElem?_eq_getElem ab] at h5 ⊢;simp at h5 ⊢;rw[h5.1];simp at a9;rw[a9]
   have b3:(Instr.keyThatStays (((es[j]?).map (·.key)).getD (kv k)) (kv k)).run P w=.ok (kv k) w:=by
    rw[a6];simp[Instr.keyThatStays,hk.bits]
   refine⟨_,_,?_,rfl,Sat.e7 (s2.setMap (o':=.map (es.modify j fun x=>{ x with key:=kv k,val:=enc e }) a0)) ?_ b0 ?_ ?_ ?_⟩
   ·simp[execOp,aP ea hx,aP ea hy,aP ea hz,Instr.mapUpdate,run_underlying ht.under,a2,hk.check,hf,b3,iG hb]
   ·simp only[gins,a5,if_true,a8];rw[Array.toList_modify];apply gY;intro i;have h5:=congrArg (fun l=>l[i]?) e1;simp only[List.getElem?_map] at h5;simp only[List.getElem?_map,List.getElem?_modify,List.getElem?_set];by_cases a3:j=i
    ·subst a3;have a7:j<es.toList.length:=by simp;omega
     simp[a1,List.getElem?_eq_getElem a7]
    ·simp only[a3,if_false];cases hq:es.toList[i]? with
     | none=>rw[hq] at h5;simpa using h5
     | some q=>rw[hq] at h5;simpa using h5
   ·simpa using e3
   ·intro x hx;obtain⟨i,hi,rfl⟩:=Array.mem_iff_getElem.1 hx;rw[Array.getElem_modify];have h6:es[i]'(by simpa using hi)∈es:=Array.getElem_mem _;split
    ·exact e4 (es[i]'(by simpa using hi)) h6
    ·exact e4 _ h6
   ·have:(es.modify j fun x=>{ x with key:=kv k,val:=enc e }).toList.map (·.born)=es.toList.map (·.born):=by
     rw[Array.toList_modify];apply gY;intro i;simp only[List.getElem?_map,List.getElem?_modify];by_cases a3:j=i
     ·subst a3;cases es.toList[j]?<;>simp
     ·simp[a3]
    rw[this];exact e5)
def Ef.n8{t kt:TypeId}{x y:Operand}{b K E:Nat}{z a2:Value}{kv:κ→Value}{enc:α→Value}{m:List (κ×α)}{Rest:LH}{k:κ}[ht:TyG P t K E z][hk:KeyT P K kv][hp:PickG L b κ α kv enc m Rest](hx:evE env x=some (.map (some b)))(hy:evE env y=some a2)[a8:KeyVal kv a2 k]
  : Ef P L env (.call { callee:=.builtin .delete,args:=#[x,y],argTypes:=#[t,kt] }) ty (fun _ L'=>L' = gmap kv enc b (gera m k)::Rest) :=
 Ef.val (fun θ R a w ea s a9 pos af g=>by
  obtain rfl:=a8.eq;obtain⟨es,a0,e1,e2,e3,e4,e5,s2⟩:=(s.perm (hp.perm.append_right R)).gmap_parts;have hb:=s2.own_heap;have hf:=rE (P:=P) (K:=K) k w e1;have a1:(getObj b).run P w=.ok (.map es a0) w:=by simp[getObj,Sem.run,hb]
  have a7:((gera m k).map (·.1)).Nodup:=e2.sublist ((gO).map _)
  have b1:es.size=m.length:=by
   have:=congrArg List.length e1
   simpa using this
  cases hj:m.findIdx? (fun p=>p.1 == k) with
  | none =>
   rw[hj] at hf;simp only[Option.bind_none] at hf;have a4:=List.findIdx?_eq_none_iff.1 hj;have he:gera m k=m:=List.filter_eq_self.2 fun p hp=>by simp[a4 p hp]
   refine⟨.tuple #[],_,_,?_,rfl,Sat.e7 (s2.setMap (o':=.map es a0)) (by rw[he];exact e1) a7 e3 e4 e5⟩;simp[execOp,resolve,invoke,builtin,aP ea hx,aP ea hy,Builtin.delete_,run_underlying ht.under,a1,hk.check,hf,iG hb]
  | some j =>
   have a5:=xv e2 hj;obtain⟨a6,b0,_⟩:=List.findIdx?_eq_some_iff_getElem.1 hj;rw[hj] at hf;simp[List.getElem?_eq_getElem a6] at hf
   have a3:(es.eraseIdxIfInBounds j).toList=es.toList.eraseIdx j:=by
    simp[Array.eraseIdxIfInBounds,show j<es.size by omega]
   refine⟨.tuple #[],_,_,?_,rfl,Sat.e7 (s2.setMap (o':=.map (es.eraseIdxIfInBounds j) a0)) ?_ a7 ?_ ?_ ?_⟩
   ·simp[execOp,resolve,invoke,builtin,aP ea hx,aP ea hy,Builtin.delete_,run_underlying ht.under,a1,hk.check,hf,iG hb]
   ·rw[a3,a5,jN,jN,e1]
   ·have h7:(es.eraseIdxIfInBounds j).size=(es.toList.eraseIdx j).length:=by rw[←a3,gP]
    have h8:(es.toList.eraseIdx j).length≤es.toList.length:=List.length_eraseIdx_le es.toList j;have h9:es.toList.length=es.size:=gP;omega
   ·intro x hx;have:x∈es.toList.eraseIdx j:=by rw[←a3];exact Array.mem_toList_iff.2 hx
    exact e4 x (by simpa using List.mem_of_mem_eraseIdx this)
   ·rw[a3,jN];exact e5.sublist (List.eraseIdx_sublist _ _))
end ops
section ranges
variable {P:Program}{L:LH}{env:Env}{ty:TypeId}{κ α:Type}{kv:κ→Value}{enc:α→Value}
def Sat.it_parts{θ:Th}{b r:Nat}{m done:List (κ×α)}{L:LH}{w:World}(s:Sat θ (jv kv enc b m r done::L) w) :
  ∃x:Array MapEntry×Nat×Array Nat×List Nat,itOk kv enc m done x∧Sat θ (own b (.map x.1 x.2.1)::own r (.mapIter (some b) x.2.1 x.2.2.1 x.2.1)::L) w:=by
 obtain⟨x,s⟩:=s.ofHex;have s2:=s.ofStars;simp only[ak,aj] at s2;exact⟨x,s2.ofPure,s2.tail⟩
def Sat.f8{θ:Th}{b r:Nat}{m done:List (κ×α)}{L:LH}{w:World}(x:Array MapEntry×Nat×Array Nat×List Nat)(hx:itOk kv enc m done x)(s:Sat θ (own b (.map x.1 x.2.1)::own r (.mapIter (some b) x.2.1 x.2.2.1 x.2.1)::L) w) :
  Sat θ (jv kv enc b m r done::L) w:=Sat.e8 x (Sat.d7 (A:=[dy (itOk kv enc m done x),own b (.map x.1 x.2.1),own r (.mapIter (some b) x.2.1 x.2.2.1 x.2.1)]) (s.addPure hx))
def Ef.m5{t K E:TypeId}{z:Value}{x:Operand}{b:Nat}{m:List (κ×α)}{Rest:LH}[ht:TyG P t K E z][hp:PickG L b κ α kv enc m Rest](hx:evE env x=some (.map (some b))) :
  Ef P L env (.range t x) ty (fun v L'=>∃r,v=aq r∧L' = jv kv enc b m r []::Rest) :=
 Ef.val (fun θ R a w ea s a2 pos af g=>by
  obtain⟨es,a0,e1,e2,e3,e4,e5,s2⟩:=(s.perm (hp.perm.append_right R)).gmap_parts;have hb:=s2.own_heap;have a1:(getObj b).run P w=.ok (.map es a0) w:=by simp[getObj,Sem.run,hb]
  refine⟨_,w.alloc (.mapIter (some b) a0 #[] a0),_,?_,⟨w.heap.size,rfl,rfl⟩,?_⟩
  ·simp[execOp,Instr.range,aP ea hx,run_underlying ht.under,a1]
  ·refine Sat.f8 (es,a0,#[],[]) ⟨e1,e2,e3,e4,e5,by simp,by simp,by simp,by simp⟩ ?_;exact(Sat.alloc s2).perm (List.Perm.swap _ _ _))
def vc{n:Nat}{js:List Nat}(h1:js.Nodup)(h2:∀j∈js,j<n)(h3:∀j,j<n→j∈js):js.Perm (List.range n) :=
 (List.perm_ext_iff_of_nodup h1 List.nodup_range).2 fun j=>⟨fun h=>List.mem_range.2 (h2 j h),fun h=>h3 j (List.mem_range.1 h)⟩
def sy{β:Type}(m:List β):(List.range m.length).filterMap (fun j=>m[j]?)=m:=by
 induction m with
 | nil=>rfl
 | cons x m ih =>
  rw[bE,List.range_succ_eq_map];simp only[List.filterMap_cons,List.getElem?_cons_zero,List.filterMap_map,Function.comp_def,List.getElem?_cons_succ,Nat.succ_eq_add_one];rw[ih]
def oY{β:Type}{m:List β}:∀{js:List Nat},(∀j∈js,j<m.length)→(js.filterMap (fun j=>m[j]?)).length=js.length
 | [],_=>rfl
 | j::js,h=>by
  rw[List.filterMap_cons,List.getElem?_eq_getElem (h j (au ..))];simp only[bE,oY fun i hi=>h i (aw _ hi)]
def uo:∀{n:Nat} {js:List Nat},js.Nodup→(∀j∈js,j<n)→js.length≤n
 | 0,js,_,h2=>by
  cases js with
  | nil=>simp
  | cons j js=>exact absurd (h2 j (au ..)) ab
 | n+1,js,h1,h2=>by
  have ih:=uo (n:=n) (js:=js.erase n) (h1.erase n) (fun j hj=>by
   have h3:=(List.Nodup.mem_erase_iff h1).1 hj;have:=h2 j h3.2
   omega)
  have:=List.length_erase (a:=n) (l:=js)
  split at this<;>omega
def Ef.m7{it:Operand}{b r:Nat}{m done:List (κ×α)}{Rest:LH}[hp:PickIt L r κ α kv enc b m done Rest](hx:evE env it=some (aq r)) :
  Ef P L env (.next it false) ty (fun v L'=>(v=.tuple #[.bool false]∧L' = jv kv enc b m r done::Rest∧done.Perm m)∨(∃p,v=.tuple #[.bool true,kv p.1,enc p.2]∧L' = jv kv enc b m r (done++[p])::Rest∧p∈m∧p∉done∧done.length<m.length)) :=
 Ef.val (fun θ R a w ea s b9 pos af g=>by
  obtain⟨⟨es,a0,a1,js⟩,⟨e1,e2,e3,e4,e5,j1,j2,j3,j4⟩,s2⟩:=(s.perm (hp.perm.append_right R)).it_parts;dsimp only at e1 e3 e4 e5 j1 j2 j3 j4 s2;have hb:=s2.own_heap;have hr:=(s2.perm (List.Perm.swap _ _ _)).own_heap
  have c1:es.size=m.length:=by
   have:=congrArg List.length e1
   simpa using this
  have a4:∀j,j∈js→∃e,es[j]? = some e∧e.born∈a1:=by
   intro j hj;have c0:=j2 j hj;refine⟨es[j]'(by omega),Array.getElem?_eq_getElem ab,?_⟩
   have:(es[j]'(by omega)).born∈a1.toList:=by
    rw[j4];exact List.mem_filterMap.2 ⟨j,hj,by simp[Array.getElem?_eq_getElem (ab:j<es.size)]⟩
   simpa using this
  have a5:∀x∈a1,∃j∈js,∃e,es[j]? = some e∧e.born=x:=by
   intro x hx;have:x∈a1.toList:=by simpa using hx
   rw[j4] at this;obtain⟨j,hj,b4⟩:=List.mem_filterMap.1 this;obtain⟨e,he,a6⟩:=Option.map_eq_some_iff.1 b4;exact⟨j,hj,e,he,a6⟩
  have a9:∀(i j:Nat) (hi:i<es.size) (hj:j<es.size),es[i].born=es[j].born→i=j:=by
   intro i j hi hj he;have h1:(es.toList.map (·.born))[i]'(by simpa using hi)=(es.toList.map (·.born))[j]'(by simpa using hj):=by simpa using he
   exact(fm e5).1 h1
  have b6:∀(j:Nat) (hj:j<es.size),es[j].key=kv (m[j]'(by omega)).1∧es[j].val=enc (m[j]'(by omega)).2:=by
   intro j hj;have h5:=congrArg (fun l=>l[j]?) e1;simp only[List.getElem?_map,Array.getElem?_toList,Array.getElem?_eq_getElem hj,List.getElem?_eq_getElem (ab:j<m.length)] at h5;simpa using h5
  rcases run_next_at (P:=P) w ty r b a0 a0 a1 es a0 hr hb (fun x hx=>e4 x (by simpa using hx)) (aI _) with⟨h0,a3⟩|⟨e,he,w1,b8,a3⟩
  ·refine⟨_,w,_,?_,.inl ⟨rfl,rfl,?_⟩,Sat.f8 (es,a0,a1,js) ⟨e1,e2,e3,e4,e5,j1,j2,j3,j4⟩ s2⟩
   ·simp[execOp,aP ea hx,a3]
   ·have a7:∀j,j<m.length→j∈js:=by
     intro j hj
     have hl:es[j]'(by omega)∉leftOf es a1:=by
      have:leftOf es a1=#[]:=Array.eq_empty_of_size_eq_zero h0;rw[this];simp
     simp only[leftOf,Array.mem_filter,not_and] at hl;have h1:=hl (Array.getElem_mem _);have h2:(es[j]'(by omega)).born∈a1:=by simpa using h1
     obtain⟨i,hi,e,he,a6⟩:=a5 _ h2;have a2:=j2 i hi;rw[Array.getElem?_eq_getElem ab] at he;simp only[Option.some.injEq] at he;rw[←he] at a6;rw[←a9 i j ab ab a6];exact hi
    rw[j3];exact((vc j1 j2 a7).filterMap _).trans (by rw[sy])
  ·have b2 : e∈es∧e.born∉a1:=by
    have:e∈leftOf es a1:=by simpa using he
    simp only[leftOf,Array.mem_filter] at this;exact⟨this.1,by simpa using this.2⟩
   obtain⟨j,hj,rfl⟩:=Array.mem_iff_getElem.1 b2.1
   have b0:j∉js:=by
    intro b5;obtain⟨e,h1,h2⟩:=a4 j b5;rw[Array.getElem?_eq_getElem hj] at h1;simp only[Option.some.injEq] at h1;rw[←h1] at h2;exact b2.2 h2
   have b3:j<m.length:=ab
   have b7:m[j]∉done:=by
    rw[j3];intro b1;obtain⟨i,hi,a8⟩:=List.mem_filterMap.1 b1;have a2:=j2 i hi;rw[List.getElem?_eq_getElem a2] at a8;simp only[Option.some.injEq] at a8;have h1:(m.map (·.1))[i]'(by simpa using a2)=(m.map (·.1))[j]'(by simpa using b3):=by simp[a8]
    have:=(fm e2).1 h1
    exact b0 (this▸hi)
   have hk:=b6 j hj;refine⟨_,ChangeMaps.setBlock w1 r (.mapIter (some b) a0 (a1.push es[j].born) a0),_,?_,.inr ⟨m[j],rfl,rfl,eO _,b7,?_⟩,Sat.f8 (es,a0,a1.push es[j].born,js++[j]) ⟨e1,e2,e3,e4,e5,?_,?_,?_,?_⟩ ?_⟩
   ·rw[←hk.1,←hk.2];simp[execOp,aP ea hx,a3]
   ·rw[j3,oY j2]
    have:=uo (n:=m.length) (js:=js++[j]) (by
     rw[gX];exact⟨j1,by simp,by intro x hx y hy;simp at hy;subst hy;rintro rfl;exact b0 hx⟩) (by
     intro i hi;rcases List.mem_append.1 hi with h|h
     ·exact j2 i h
     ·simp at h;omega)
    simp at this;omega
   ·show(js++[j]).Nodup;rw[gX];exact⟨j1,by simp,by intro x hx y hy;simp at hy;subst hy;rintro rfl;exact b0 hx⟩
   ·intro i hi;rcases List.mem_append.1 hi with h|h
    ·exact j2 i h
    ·simp at h;omega
   ·simp[j3,List.filterMap_append,List.getElem?_eq_getElem b3]
   ·simp[j4,List.filterMap_append,Array.getElem?_eq_getElem hj]
   ··have s3:Sat θ (own r (.mapIter (some b) a0 a1 a0)::own b (.map es a0)::(Rest++R)) w1:=by
      rcases b8 with rfl|rfl
      ·exact s2.perm (List.Perm.swap _ _ _)
      ·exact(Sat.drew s2).perm (List.Perm.swap _ _ _)
     exact(Sat.setMap (o':=.mapIter (some b) a0 (a1.push es[j].born) a0) s3).perm (List.Perm.swap _ _ _))
def Ev.m7{it:Operand}{b r:Nat}{m done done' : List (κ×α)}{p:κ×α}{Rest:LH}[hp:PickIt L r κ α kv enc b m done' Rest](hd:done' = done++[p])(hx:evE env it=some (aq r)) :
  Ev P L env (.entry it) ty (.tuple #[kv p.1,enc p.2]) :=
 Ev.mk (fun θ R _ w ea s _ _ _ _=>by
  subst hd;obtain⟨⟨es,a0,a1,js⟩,⟨e1,e2,e3,e4,e5,j1,j2,j3,j4⟩,s2⟩:=(s.perm (hp.perm.append_right R)).it_parts;dsimp only at e1 e3 e4 e5 j1 j2 j3 j4 s2;have hb:=s2.own_heap;have hr:=(s2.perm (List.Perm.swap _ _ _)).own_heap
  have a7:es.size=m.length:=by
   have:=congrArg List.length e1
   simpa using this
  rcases List.eq_nil_or_concat js with rfl|⟨a6,j,rfl⟩
  ·simp at j3
  ·have a2:j<m.length:=j2 j bH;have hj:j<es.size:=ab;rw[List.concat_eq_append] at j3 j4;simp[List.filterMap_append,List.getElem?_eq_getElem a2] at j3;simp[List.filterMap_append,Array.getElem?_eq_getElem hj] at j4;have a4:p=m[j]:=j3.2
   have a3:es[j].key=kv p.1∧es[j].val=enc p.2:=by
    have h5:=congrArg (fun l=>l[j]?) e1;simp only[List.getElem?_map,Array.getElem?_toList,Array.getElem?_eq_getElem hj,List.getElem?_eq_getElem a2] at h5;rw[a4];simpa using h5
   have a5:a1=(a6.filterMap (fun j=>(es[j]?).map (·.born))).toArray.push es[j].born:=by
    apply Array.ext';simp[j4]
   rw[a5] at hr;have:=run_entry_at (P:=P) w r b a0 _ es a0 es[j] hr hb bH e5
   rw[a3.1,a3.2] at this;simp[execOp,aP ea hx,this])
end ranges
end
section
def iE(P:Program)(N:Nat)(rs:List ResultVar)(post:Value→LH→Prop):Post:=Ends P N rs post
section inp
variable {P:Program}{N M:Nat}{env:Env}{L:LH}{K:Post}{post:Value→LH→Prop}{ops:Array Oper}{rest:List Oper}{d:Nat}{ty:TypeId}{pos:String}{af:Array Edge}
def KX.m8{e:Exit}{rs:List ResultVar}(h:iE P N rs post e env L):iE P N rs post e env L:=h
def KX.in0{e:Exit}(he:e=.ret∨e=.normal)(h:post (.tuple #[]) L):iE P N [] post e env L:=⟨he,fun _ _ _ s=>⟨[],L,ResOk.nil,s,h⟩⟩
def KX.in1{e:Exit}{t:Nat}{v:Value}(he:e=.ret∨e=.normal)(h1:env.lookup t=some v)(h:post v L):iE P N [.tmp t] post e env L:=⟨he,fun _ _ _ s=>⟨[v],L,ResOk.tmp h1 ResOk.nil,s,h⟩⟩
def KX.in2{e:Exit}{t u:Nat}{v w:Value}(he:e=.ret∨e=.normal)(h1:env.lookup t=some v)(h2:env.lookup u=some w)(h:post (.tuple #[v,w]) L):iE P N [.tmp t,.tmp u] post e env L:=⟨he,fun _ _ _ s=>⟨[v,w],L,ResOk.tmp h1 (ResOk.tmp h2 ResOk.nil),s,h⟩⟩
def KX.in3{e:Exit}{t u x:Nat}{v w y:Value}(he:e=.ret∨e=.normal)(h1:env.lookup t=some v)(h2:env.lookup u=some w)(h3:env.lookup x=some y)(h:post (.tuple #[v,w,y]) L):iE P N [.tmp t,.tmp u,.tmp x] post e env L:=⟨he,fun _ _ _ s=>⟨[v,w,y],L,ResOk.tmp h1 (ResOk.tmp h2 (ResOk.tmp h3 ResOk.nil)),s,h⟩⟩
def KX.inC{e:Exit}{x b T n:Nat}{t:TypeId}{cs:LV}{Rest:LH}[ht:TyAgg P t n][hp:PickObj L b T cs Rest](he:e=.ret∨e=.normal)(h1:env.lookup x=some (aq b))(hn:cs.length=n)(h:post (.agg cs.toArray) L):iE P N [.cell x t] post e env L :=
 ⟨he,fun _ _ _ s=>⟨[.agg cs.toArray],L,ResOk.cell h1 hn ResOk.nil,s,h⟩⟩
def KX.m7{e:Exit}{x b T n u:Nat}{t:TypeId}{cs:LV}{w:Value}{Rest:LH}[ht:TyAgg P t n][hp:PickObj L b T cs Rest](he:e=.ret∨e=.normal)(h1:env.lookup x=some (aq b))(hn:cs.length=n)(h2:env.lookup u=some w)(h:post (.tuple #[.agg cs.toArray,w]) L):iE P N [.cell x t,.tmp u] post e env L :=
 ⟨he,fun _ _ _ s=>⟨[.agg cs.toArray,w],L,ResOk.cell h1 hn (ResOk.tmp h2 ResOk.nil),s,h⟩⟩
variable {f:FuncId}{fn:Func}{c:Code}{rs:List ResultVar}{xs:Array Operand}{ats:Array TypeId}{vs:LV}
def GO.l7(he:Enters P f)(hf:P.funcs[f]? = some fn)(hb:fn.body=some c)(hr:fn.results=rs.toArray)(hN:fn.ntmps=M)(hv:fT env xs.toList=some vs)(a0 : vs.length≤M)(hd:d<N)
  (h:G P M c (env0 vs 0) L (iE P M rs (fun v L'=>GO P N ops rest ((d,v)::env) L' K))):GO P N ops (⟨some d,.call { callee:=.value (.func f),args:=xs,argTypes:=ats },ty,pos,af,none⟩::rest) env L K :=
 GO.ef (Ef.d9 (Tri.body (args:=vs) M he hf hb hr hN a0 h) hv) hd fun _ _ h=>h
def GPW.e9{done:List Nat}{plan:List Stp}{a0:List PE}{i:Nat}(he:Enters P f)(hf:P.funcs[f]? = some fn)(hb:fn.body=some c)(hr:fn.results=rs.toArray)(hN:fn.ntmps=M)(hv:fT env xs.toList=some vs)(a1 : vs.length≤M)(hd:d<N)
  (h:G P M c (env0 vs 0) L (iE P M rs (fun v L'=>GPK P N ops done i plan a0 [] ((d,v)::env) L' K))):GPW P N ops done (.ef i) plan (some d) (.call { callee:=.value (.func f),args:=xs,argTypes:=ats }) ty a0 env L K :=
 GPW.ef (Ef.d9 (Tri.body (args:=vs) M he hf hb hr hN a1 h) hv) hd fun _ _ h=>h
def Ef.l0{x:Operand}{first cap:LV}{post:Value→LH→Prop}(c:Tri P f (first++vs++cap).toArray L post)(hx:evE env x=some (.func (.func f) first.toArray cap.toArray))(hv:fT env xs.toList=some vs) :
  Ef P L env (.call { callee:=.value x,args:=xs,argTypes:=ats }) ty post:=by
 have h:=Ef.n7 (R':=[]) (ats:=ats) (ty:=ty) c hx hv (by rw[aO];exact Ent.refl _);intro θ R a w o next Q ha s h1 h2 hn
 exact h θ R a w o next Q ha s h1 h2 (fun v L' w' ⟨L₁,hp,he⟩ s'=>hn v L₁ w' hp (by rw[he,aO] at s';exact s'))
def GO.l6{x:Operand}{first cap:LV}(hx:evE env x=some (.func (.func f) first.toArray cap.toArray))(he:Enters P f)(hf:P.funcs[f]? = some fn)(hb:fn.body=some c)(hr:fn.results=rs.toArray)(hN:fn.ntmps=M)(hv:fT env xs.toList=some vs)(a0 : (first++vs++cap).length≤M)(hd:d<N)
  (h:G P M c (env0 (first++vs++cap) 0) L (iE P M rs (fun v L'=>GO P N ops rest ((d,v)::env) L' K))):GO P N ops (⟨some d,.call { callee:=.value x,args:=xs,argTypes:=ats },ty,pos,af,none⟩::rest) env L K :=
 GO.ef (Ef.l0 (Tri.body (args:=first++vs++cap) M he hf hb hr hN a0 h) hx hv) hd fun _ _ h=>h
def GPW.e8{done:List Nat}{plan:List Stp}{a0:List PE}{i:Nat}{x:Operand}{first cap:LV}(hx:evE env x=some (.func (.func f) first.toArray cap.toArray))(he:Enters P f)(hf:P.funcs[f]? = some fn)(hb:fn.body=some c)(hr:fn.results=rs.toArray)(hN:fn.ntmps=M)(hv:fT env xs.toList=some vs)(a1 : (first++vs++cap).length≤M)(hd:d<N)
  (h:G P M c (env0 (first++vs++cap) 0) L (iE P M rs (fun v L'=>GPK P N ops done i plan a0 [] ((d,v)::env) L' K))):GPW P N ops done (.ef i) plan (some d) (.call { callee:=.value x,args:=xs,argTypes:=ats }) ty a0 env L K :=
 GPW.ef (Ef.l0 (Tri.body (args:=first++vs++cap) M he hf hb hr hN a1 h) hx hv) hd fun _ _ h=>h
def GO.ci[e:En P f fn M](h:G P M c (env0 vs 0) L (iE P M rs (fun v L'=>GO P N ops rest ((d,v)::env) L' K)))(hb:fn.body=some c:=by exact rfl)(hr:fn.results=rs.toArray:=by exact rfl)(hv:fT env xs.toList=some vs:=by exact rfl)(hN' : vs.length≤M:=by simp)(hd:d<N:=by decide):GO P N ops (⟨some d,.call { callee:=.value (.func f),args:=xs,argTypes:=ats },ty,pos,af,none⟩::rest) env L K:=GO.l7 e.en e.hf hb hr e.hN hv hN' hd h
def GPW.ci{done:List Nat}{plan:List Stp}{a0:List PE}{i:Nat}[e:En P f fn M](h:G P M c (env0 vs 0) L (iE P M rs (fun v L'=>GPK P N ops done i plan a0 [] ((d,v)::env) L' K)))(hb:fn.body=some c:=by exact rfl)(hr:fn.results=rs.toArray:=by exact rfl)(hv:fT env xs.toList=some vs:=by exact rfl)(hN' : vs.length≤M:=by simp)(hd:d<N:=by decide):GPW P N ops done (.ef i) plan (some d) (.call { callee:=.value (.func f),args:=xs,argTypes:=ats }) ty a0 env L K:=GPW.e9 e.en e.hf hb hr e.hN hv hN' hd h
def GO.cf{x:Operand}{first cap:LV}(hx:evE env x=some (.func (.func f) first.toArray cap.toArray))[e:En P f fn M](h:G P M c (env0 (first++vs++cap) 0) L (iE P M rs (fun v L'=>GO P N ops rest ((d,v)::env) L' K)))(hb:fn.body=some c:=by exact rfl)(hr:fn.results=rs.toArray:=by exact rfl)(hv:fT env xs.toList=some vs:=by exact rfl)(hN' : (first++vs++cap).length≤M:=by simp)(hd:d<N:=by decide):GO P N ops (⟨some d,.call { callee:=.value x,args:=xs,argTypes:=ats },ty,pos,af,none⟩::rest) env L K:=GO.l6 hx e.en e.hf hb hr e.hN hv hN' hd h
def GPW.cf{done:List Nat}{plan:List Stp}{a0:List PE}{i:Nat}{x:Operand}{first cap:LV}(hx:evE env x=some (.func (.func f) first.toArray cap.toArray))[e:En P f fn M](h:G P M c (env0 (first++vs++cap) 0) L (iE P M rs (fun v L'=>GPK P N ops done i plan a0 [] ((d,v)::env) L' K)))(hb:fn.body=some c:=by exact rfl)(hr:fn.results=rs.toArray:=by exact rfl)(hv:fT env xs.toList=some vs:=by exact rfl)(hN' : (first++vs++cap).length≤M:=by simp)(hd:d<N:=by decide):GPW P N ops done (.ef i) plan (some d) (.call { callee:=.value x,args:=xs,argTypes:=ats }) ty a0 env L K:=GPW.e8 hx e.en e.hf hb hr e.hN hv hN' hd h
def KX.inA{φ ψ:Prop}(k:ψ)(h:Hid ψ→φ:=by intro k;(with_reducible apply KX.m8);first|refine KX.in0 (.inl rfl) (Hid.out k)|refine KX.in0 (.inr rfl) (Hid.out k)|refine KX.in1 (.inl rfl) rfl (Hid.out k)|refine KX.in2 (.inl rfl) rfl rfl (Hid.out k)|refine KX.in3 (.inl rfl) rfl rfl rfl (Hid.out k)|refine KX.inC (.inl rfl) rfl aJ (Hid.out k)|refine KX.m7 (.inl rfl) rfl aJ rfl (Hid.out k)):φ:=h ⟨k⟩
def Ef.d8{x:Operand}{first cap:LV}{post:Value→LH→Prop}(hx:evE env x=some (.func (.func f) first.toArray cap.toArray))(hv:fT env xs.toList=some vs)(c:Tri P f (first++vs++cap).toArray L post) :
  Ef P L env (.call { callee:=.value x,args:=xs,argTypes:=ats }) ty post:=Ef.l0 c hx hv
def Ef.n5{x:Operand}{first cap:LV}{pre R' : LH}{post:Value→LH→Prop}(hx:evE env x=some (.func (.func f) first.toArray cap.toArray))(hv:fT env xs.toList=some vs)(c:Tri P f (first++vs++cap).toArray pre post)(hL:Ent L (pre++R')) :
  Ef P L env (.call { callee:=.value x,args:=xs,argTypes:=ats }) ty (fun v L'=>∃L₁,post v L₁∧L' = L₁++R'):=Ef.n7 c hx hv hL
end inp
end
section
class TyArr (P:Program) (T:Nat) (n E sz:outParam Nat):Prop where
 under:P.underlying T=some (.array n E)
 size:(P.info? E).map (·.size)=some sz
def TyArr.sizeOf_run{P:Program}{T n E sz:Nat}(h:TyArr P T n E sz)(w:World):(sizeOf E).run P w=.ok sz w:=by
 have h1:=h.size;cases hi:P.info? E with
 | none=>rw[hi] at h1;cases h1
 | some i=>rw[hi] at h1;simp at h1;simp[sizeOf,typeInfo,hi,h1]
def HH(a:Addr)(i j:Nat):(a.add i).add j=a.add (i+j):=by
 unfold Addr.add;by_cases hi:i=0
 ·subst hi;simp
 ·by_cases hj:j=0
  ·subst hj;simp[hi]
  ·have:i+j≠0:=ab;simp[hi,hj,dP]
section
variable {P:Program}{N:Nat}{env:Env}{L:LH}{ty:TypeId}{v:Value}
def Ev.u3{t:TypeId}{x i:Operand}(h:Ev P L env (.index t x i) ty v):Ev P L env (.index t x i) ty v:=h
def Ev.o7{t:TypeId}{x i:Operand}{b o n E sz:Nat}{j:Int}{k:IntKind}[ht:TyArr P t n E sz](hx:evE env x=some (.pointer (some ⟨b,o,none⟩)))(hi:evE env i=some (.int k j))(h0:0≤j)(h1:j<n) :
  Ev P L env (.indexAddr t x i) ty (.pointer (some ⟨b,o+j.toNat*sz,none⟩)) :=
 Ev.mk (fun θ R _ w ea s _ _ _ _=>by
  simp[execOp,aP ea hx,aP ea hi,Instr.indexAt,asIntOf,run_underlying ht.under,h0,h1,ht.sizeOf_run,jG,Instr.sureAddr])
def Ev.p6{t:TypeId}{x i:Operand}{ad:OA}{s' m o n E sz:Nat}{j:Int}{k:IntKind}{α:Type}{enc:α→LV}{xs:List α}[ht:TyArr P t n E sz][hr:Rds L ad α enc s' xs](hx:evE env x=some (.pointer (elP ad s' m o)))(hi:evE env i=some (.int k j))(hm:m<xs.length)(h0:0≤j)(h1:j<n) :
  Ev P L env (.indexAddr t x i) ty (.pointer (elP ad s' m (o+j.toNat*sz))) :=
 Ev.mk (fun θ R _ w ea s _ _ _ _=>by
  obtain⟨_,h2⟩:=hr.rd θ R w s;rcases h2 with h2|⟨a,rfl,_⟩
  ·subst h2;simp at hm
  ·simp[execOp,aP ea hx,aP ea hi,Instr.indexAt,asIntOf,run_underlying ht.under,h0,h1,ht.sizeOf_run,elP,Instr.sureAddr,HH,dP])
def CG{s:ByteArray}{i:Nat}(h:i<s.size):s[i]? = some (s.data[i]'(by simpa using h)):=by
 simp[h];rfl
def Ev.r6{t:TypeId}{x i:Operand}{s:ByteArray}{j:Int}{k:IntKind}[ht:TyStr P t](hx:evE env x=some (.string s))(hi:evE env i=some (.int k j))(h0:0≤j)(h1:j<s.size) :
  Ev P L env (.index t x i) ty (.int .u8 ((cW s)[j.toNat]!)) :=
 Ev.mk (fun θ R _ w ea st _ _ _ _=>by
  have a0:j.toNat<s.size:=ab
  have hn:(cW s)[j.toNat]! = ((s.data[j.toNat]'(by simpa using a0)).toNat:Int):=by
   rw[List.getElem!_eq_getElem?_getD,List.getElem?_eq_getElem (by rw[oz];exact a0)];simp[cW]
  rw[hn];simp[execOp,aP ea hx,aP ea hi,Instr.index,asIntOf,run_underlying ht.under,h0,CG a0])
def un(s:ByteArray):∀x∈cW s,0≤x∧x≤255:=by
 intro x hx;simp only[cW,List.mem_map] at hx;obtain⟨y,_,rfl⟩:=hx;have:=y.toNat_lt
 omega
def Ev.l8{t:TypeId}{x lo hi:Operand}{s:ByteArray}{k k' : IntKind}{i j:Int}[ht:TyStr P t](hx:evE env x=some (.string s))(hl:evE env lo=some (.int k i))(hh:evE env hi=some (.int k' j))(h0:0≤i)(h1:i≤j)(h2:j≤s.size) :
  Ev P L env (.slice t x (some lo) (some hi) none) ty (.string (s.extract i.toNat j.toNat)) :=
 Ev.mk (fun θ R _ w ea st _ _ _ _=>by
  have h3:0≤j:=ab;simp[execOp,aP ea hx,aP ea hl,aP ea hh,Instr.sliceAt,Instr.slice,Instr.sliceBounds,Instr.sliceBound,asIntOf,run_underlying ht.under,h0,h2,h3];intro h;exact absurd h ab)
def nI(s:ByteArray):s.extract 0 s.size=s:=by
 apply ByteArray.ext;simp
end
end
section
def putK:Nat→LV→LV→(LV→Option (LV))→Option (LV)
 | 0,[],z,k=>k z
 | 0,c::cs,_::z,k=>putK 0 cs z fun r=>k (c::r)
 | o+1,cs,x::z,k=>putK o cs z fun r=>k (x::r)
 | _,_,[],_=>none
def qu:∀(o:Nat) (cs z:LV) (k:LV→Option (LV)) (r:LV),putK o cs z k=some r→o+cs.length≤z.length∧k (z.take o++cs++z.drop (o+cs.length))=some r
 | 0,[],z,k,r,h=>by simpa [putK] using h
 | 0,c::cs,[],k,r,h=>by simp[putK] at h
 | 0,c::cs,_::z,k,r,h=>by
  simp only[putK] at h;have:=qu 0 cs z _ r h
  simp at this ⊢;exact this
 | o+1,cs,[],k,r,h=>by simp[putK] at h
 | o+1,cs,x::z,k,r,h=>by
  simp only[putK] at h;have:=qu o cs z _ r h
  rw[show o+1+cs.length=o+cs.length+1 by omega];simp at this ⊢;exact⟨ab,this.2⟩
def subK:Nat→Nat→LV→(LV→Option (LV))→Option (LV)
 | 0,0,_,k=>k []
 | 0,n+1,x::z,k=>subK 0 n z fun r=>k (x::r)
 | o+1,n,_::z,k=>subK o n z k
 | _,_,[],_=>none
def tq:∀(o n:Nat) (z:LV) (k:LV→Option (LV)) (r:LV),subK o n z k=some r→o+n≤z.length∧k ((z.drop o).take n)=some r
 | 0,0,z,k,r,h=>by cases z<;>simpa [subK] using h
 | 0,n+1,[],k,r,h=>by simp[subK] at h
 | 0,n+1,x::z,k,r,h=>by
  simp only[subK] at h;have:=tq 0 n z _ r h
  simp at this ⊢;exact this
 | o+1,n,[],k,r,h=>by cases n<;>simp[subK] at h
 | o+1,n,x::z,k,r,h=>by
  have h' : subK o n z k=some r:=by cases n<;>simpa only[subK] using h
  have:=tq o n z _ r h'
  rw[show o+1+n=o+n+1 by omega];simp at this ⊢;exact this
def lT:Value→LV
 | .agg cs=>cs.toList
 | v=>[v]
def vq:Value→Bool
 | .tuple _=>true
 | _=>false
def DR(v:Value)(ht:vq v=false):v.cells=(lT v).toArray:=by
 cases v<;>simp[Value.cells,lT,vq] at ht ⊢
def qk(pl:List (Nat×Nat)):List (Nat×Value)→LV→Option (LV)
 | [],z=>some z
 | (i,v)::r,z=>match pl[i]? with
  | none=>none
  | some (off,sz)=>if vq v=false∧(lT v).length=sz then putK off (lT v) z fun z'=>qk pl r z' else none
def Gq(off:Nat)(cs z:LV)(h:off+cs.length≤z.length):(cs.toArray.zipIdx.foldl (fun (a:Array Value) (p:Value×Nat)=>a.setIfInBounds (off+p.2) p.1) z.toArray)=(z.take off++cs++z.drop (off+cs.length)).toArray:=by
 have a0:∀(cs:LV) (k:Nat) (z:LV),off+k+cs.length≤z.length→(cs.zipIdx k).foldl (fun (a:Array Value) (p:Value×Nat)=>a.setIfInBounds (off+p.2) p.1) z.toArray=(z.take (off+k)++cs++z.drop (off+k+cs.length)).toArray:=by
  intro cs;induction cs with
  | nil=>intro k z _;simp
  | cons c cs ih =>
   intro k z hz;simp only[bE] at hz;simp only[List.zipIdx_cons,fF,List.setIfInBounds_toArray];rw[ih (k+1) (z.set (off+k) c) fy];congr 1;rw[show off+(k+1)=off+k+1 by omega,aC fy,List.getElem_set_self,List.take_set_of_le ab,List.drop_set_of_lt ab];simp only[aF,ak,aj,bE];rw[show off+k+1+cs.length=off+k+(cs.length+1) by omega]
 have:=a0 cs 0 z ab
 simpa using this
def qY(pl:List (Nat×Nat)):∀(vs:List (Nat×Value)) (z cs:LV),qk pl vs z=some cs→Instr.fill (fun i=>pl.toArray[i]?) z.toArray vs=some cs.toArray
 | [],z,cs,h=>by simp[qk] at h;simp[Instr.fill,h]
 | (i,v)::r,z,cs,h=>by
  simp only[qk] at h;cases h1:pl[i]? with
  | none=>rw[h1] at h;cases h
  | some p =>
   obtain⟨off,sz⟩:=p;rw[h1] at h;simp only at h;by_cases hc:vq v=false∧(lT v).length=sz
   ·rw[if_pos hc] at h;obtain⟨h3,h4⟩:=qu _ _ _ _ _ h;have ih:=qY pl r _ _ h4;have a1:=hc.2;simp only[Instr.fill,List.getElem?_toArray,h1,DR v hc.1,List.size_toArray];have a0:¬(decide ((lT v).length≠sz) || decide (off+(lT v).length>z.length))=true:=by simp[a1];omega
    rw[if_neg a0,Gq off (lT v) z h3];simp only[List.getElem?_toArray] at ih;exact ih
   ·rw[if_neg hc] at h;cases h
def qX{α:Type}{enc:α→LV}{sz:Nat}(e:α):∀{xs:List α} {j:Nat},(∀x∈xs,(enc x).length=sz)→j<xs.length→(xs.set j e).flatMap enc=(xs.flatMap enc).take (j*sz)++enc e++(xs.flatMap enc).drop (j*sz+sz)
 | [],j,_,h=>by simp at h
 | x::xs,0,hs,_=>by
  have hx:=hs x (au ..);simp only[List.set_cons_zero,bB,Nat.zero_mul,bC,aj,dj];rw[←hx,List.drop_left]
 | x::xs,j+1,hs,h=>by
  have hx:=hs x (au ..);have ih:=qX e (xs:=xs) (j:=j) (fun y hy=>hs y (aw _ hy)) (by simpa using h);simp only[List.set_cons_succ,bB,ih];rw[show(j+1)*sz=(enc x).length+j*sz by rw[hx,Nat.succ_mul];omega,List.take_length_add_append,dP,List.drop_length_add_append];simp only[aF]
section
variable {P:Program}{N:Nat}{env:Env}{L:LH}{ty:TypeId}{v:Value}
def Ev.z7{t:TypeId}{ps:Array (Nat×Operand)}{vs:List (Nat×Value)}{pl:List (Nat×Nat)}{z cs:LV}[hs:TyStruct P t pl][hz:ZeroT P t z](hv:kX env ps.toList=some vs)(hc:qk pl vs z=some cs):Ev P L env (.build t ps) ty (.agg cs.toArray) :=
 Ev.mk (fun θ R ρ w ea s _ _ _ _=>by
  obtain⟨z0,h1,h2⟩:=hz.run w;have he:=hs.eq;cases hu:P.underlying t with
  | none=>rw[hu] at he;cases he
  | some dsc =>
   rw[hu] at he;cases dsc<;>simp[rr] at he;rename_i fs;have hm:=nB (P:=P) (w:=w) fs.toList pl (by simpa using he)
   have a0:ps.map (fun p=>(p.1,ρ p.2))=vs.toArray:=by
    apply Array.ext';simpa using ea.pairs ps.toList vs hv
   have a1 : (fs.mapM fun (f:Field)=>do pure (f.offset,←sizeOf f.type)).run P w=.ok pl.toArray w:=by
    have e:fs=fs.toList.toArray:=by simp
    rw[e,List.mapM_toArray];simp only[Sem.run_map,hm,Result.andThen_ok]
   have hf:=qY pl vs z cs hc;simp only[execOp,a0,Instr.build,Sem.run_bind,h1,Result.andThen_ok,run_underlying hu,a1,h2];simp only[hf];simp)
def Ev.e9{t:TypeId}{x:Operand}{b o T n:Nat}{cs vs:LV}{Rest:LH}[ht:TyAgg P t n][hp:PickObj L b T cs Rest](hx:evE env x=some (.pointer (some ⟨b,o,none⟩)))(hs:subK o n cs some=some vs):Ev P L env (.load t x) ty (.agg vs.toArray) :=
 Ev.mk (fun θ R _ w ea s _ _ _ _=>by
  obtain⟨h1,h2⟩:=tq _ _ _ _ _ hs;simp only[Option.some.injEq] at h2;subst h2;have hb:=s.obj_heap hp.perm
  have hl:=run_loadCells_list (P:=P) w ⟨b,o,none⟩ ((cs.drop o).take n) (fun j v hv=>by
   have hj:j<n:=by have:=(List.getElem?_eq_some_iff.1 hv).1;simp at this;omega
   rw[jG,eV hb];simp[hj] at hv ⊢;exact hv)
  have a0:((cs.drop o).take n).length=n:=by simp;omega
  rw[a0] at hl;simp[execOp,aP ea hx,Instr.loadAt,Instr.sureAddr,loadVar,ht.run,TyAgg.sizeOf_run,hl])
def Ef.l6{t:TypeId}{x y:Operand}{b o T n:Nat}{cs vs a0 : LV}{Rest:LH}[ht:TyAgg P t n][hp:PickObj L b T cs Rest](hx:evE env x=some (.pointer (some ⟨b,o,none⟩)))(hy:evE env y=some (.agg vs.toArray))(hn:vs.length=n)(hs:putK o vs cs some=some a0)(h1:∀v∈vs,v.oneCell' = true)
  : Ef P L env (.store t x y) ty (fun _ L'=>L' = obj b T a0::Rest) :=
 Ef.skip (fun θ R a w ea s a2 pos af g=>by
  obtain⟨h2,h3⟩:=qu _ _ _ _ _ hs;simp only[Option.some.injEq] at h3;subst h3;have s1:=s.perm (hp.perm.append_right R);have hb:w.heap[b]? = some (.cells cs.toArray T (0,0)):=s1.own_heap;have a1:=run_storeCells_at P b o T vs 0 cs.toArray w hb fy h1;refine⟨w.setRow b (cs.take o++vs++cs.drop (o+vs.length)).toArray,_,?_,rfl,?_⟩
  ·simp[execOp,aP ea hx,aP ea hy,Instr.storeAt,Instr.sureAddr,storeVar,TyAgg.sizeOf_run,Value.cells,hn] at a1 ⊢;rw[a1];simp
  ·exact Sat.update s1 ⟨s.1.tape,s.1.os,s.1.output,s.1.drawn⟩ (setRow_heap w b _ _ T _ hb) (fun j x hj hx=>by rw[setRow_other w b j _ hj];exact hx))
def Ev.q8{t:TypeId}{x:Operand}{b m sz j o:Nat}{α:Type}[Inhabited α]{enc:α→LV}{xs:List α}[ht:TyOne P t][hr:Rds L (some ⟨b,0,none⟩) α enc sz xs]
  (hx:evE env x=some (.pointer (some ⟨b,m,none⟩))) (hm:m=j*sz+o) (hj:j<xs.length) (ho:o<sz) (hv:(enc xs[j]!)[o]? = some v):Ev P L env (.load t x) ty v:=by
 refine Ev.d7 (ad:=some ⟨b,0,none⟩) (sz:=sz) (j:=j) (o:=o) ?_ hj ho hv;rw[hx,hm];simp only[elP,eZ,gB]
def Ef.e7{t:TypeId}{x y:Operand}{ad:OA}{sz j E cap:Nat}{α:Type}[Inhabited α]{enc:α→LV}{xs:List α}{Rest:LH}{vs:LV}(e:α)[ht:TyAgg P t sz][hp:PickOsl L ad α enc sz E cap xs Rest]
  (hx:evE env x=some (.pointer (elP ad sz j 0))) (hy:evE env y=some (.agg vs.toArray)) (he:enc e=vs) (hn:vs.length=sz) (h1:∀v∈vs,v.oneCell' = true) (hj:j<xs.length) :
  Ef P L env (.store t x y) ty (fun _ L'=>L' = osl enc sz E ad cap (xs.set j e)::Rest) :=
 Ef.skip (fun θ R ρ w ea s a9 pos af g=>by
  have s1:=s.perm (hp.perm.append_right R);obtain⟨p1,p2,p3,p4⟩:=Sat.osl_parts s1;rcases p4 with⟨rfl,rfl⟩|⟨gb,a0,rfl,f1,f2,f3⟩
  ·omega
  ·have hb:w.heap[gb]? = some (.cells a0 E (0,0)):=f3.own_heap;have a1:(j+1)*sz≤xs.length*sz:=dI _ hj;rw[Nat.succ_mul] at a1;have a4:=dI sz p2;have a2:=run_storeCells_at P gb (j*sz) E vs 0 a0 w hb ab h1
   have a5:∀y∈xs.set j e,(enc y).length=sz:=by
    intro y a8;rcases bX a8 with h|h
    ·exact p1 y h
    ·subst h;rw[he];exact hn
   have a7 : evE env x=some (.pointer (some ⟨gb,j*sz,none⟩)):=by rw[hx];simp only[elP,eZ,gB,Nat.add_zero]
   refine⟨w.setRow gb (a0.toList.take (j*sz)++vs++a0.toList.drop (j*sz+sz)).toArray,_,?_,rfl,?_⟩
   ·simp[execOp,aP ea a7,aP ea hy,Instr.storeAt,Instr.sureAddr,storeVar,TyAgg.sizeOf_run,Value.cells,hn] at a2 ⊢;rw[a2];simp
   ·have s3:Sat θ (own gb (.cells (a0.toList.take (j*sz)++vs++a0.toList.drop (j*sz+sz)).toArray E (0,0))::(Rest++R)) (w.setRow gb (a0.toList.take (j*sz)++vs++a0.toList.drop (j*sz+sz)).toArray) :=
     Sat.update f3 ⟨s.1.tape,s.1.os,s.1.output,s.1.drawn⟩ (setRow_heap w gb _ _ E _ hb) (fun k x hk hx=>by rw[setRow_other w gb k _ hk];exact hx)
    refine Sat.osl_mk (L:=Rest++R) s3 a5 (by simpa using p2) p3 ?_ ?_
    ·simp[hn];omega
    ·have a6:(a0.toList.take (j*sz)).length=j*sz:=by simp;omega
     rw[qX e p1 hj,←f2,he,bJ,List.take_take,Nat.min_eq_left ab,List.drop_take];simp only;have a3:(a0.toList.take (j*sz)++vs).length=j*sz+sz:=by rw[ax,a6,hn]
     rw[List.take_append,a3,aB (l:=a0.toList.take (j*sz)++vs) ab])
def tQ{α:Type}{enc:α→LV}{z:Array Value}{e:α}(he:enc e=z.toList)(hz:0<z.size)(n:Nat):((List.replicate n e).flatMap enc).toArray=madeCells z (n*z.size):=by
 apply Array.ext
 ·simp[madeCells,fe (enc:=enc) (sz:=z.size) (xs:=List.replicate n e) (fun x hx=>by rw[ge hx,he];simp)]
 ·intro i h1 h2;simp only[madeCells,Array.getElem_map,Array.getElem_range]
  have a0:((List.replicate n e).flatMap enc).length=n*z.size:=by
   have:=fe (enc:=enc) (sz:=z.size) (xs:=List.replicate n e) (fun x hx=>by rw[ge hx,he];simp)
   simpa using this
  have hi:i<n*z.size:=by simpa [a0] using h1
  have hq:i / z.size<n:=(fN hz).2 hi;have hr:=fR i hz;have hd:=fE i z.size;haveI:Inhabited α:=⟨e⟩
  have:=oJ (enc:=enc) (sz:=z.size) (xs:=List.replicate n e) (fun x hx=>by rw[ge hx,he];simp) (j:=i / z.size) (o:=i % z.size) (by simpa using hq) hr
  rw[show i / z.size*z.size+i % z.size=i by rw[fM];exact hd] at this;rw[List.getElem!_eq_getElem?_getD,List.getElem?_replicate,if_pos hq] at this;simp only[fY,he] at this;rw[List.getElem?_eq_getElem ab] at this;simp only[Array.getElem?_toList,Array.getElem?_eq_getElem hr,Option.some.injEq] at this;simp only[List.getElem_toArray,this];rw[getElem!_pos z (i % z.size) hr]
def Ef.f8{t:TypeId}{x y:Operand}{E sz bb:Nat}{z:LV}{α:Type}(enc:α→LV)(e:α){n c:Int}[ht:TySl P t E sz bb z](hx:evE env x=some (ac n))(hy:evE env y=some (ac c))(he:enc e=z)(h0:0≤n)(hc:n≤c)(h1:c*bb≤16777216)(h2:c≤1000000000) :
  Ef P L env (.makeSlice t x y) ty (fun v L'=>∃b,v=.slice (some ⟨b,0,none⟩) n.toNat c.toNat∧L' = osl enc sz E (some ⟨b,0,none⟩) c.toNat (List.replicate n.toNat e)::L) :=
 Ef.val (fun θ R a w ea s a3 pos af g=>by
  obtain⟨ii,zz,i1,i2,i3,i4,i5⟩:=ht.parts;have a2:zz.cells.size=sz:=by rw[←gP,i3];exact ht.zlen
  have a1:=ht.pos;have hk:=run_make (P:=P) w t E ii zz ht.under i1 i2 .i64 .i64 n c h0 hc (by rw[i5,Int.mul_comm];omega) ab;rw[i4,←a2,←tQ (enc:=enc) (e:=e) (by rw[he,i3]) ab] at hk;refine⟨.slice (some ⟨w.heap.size,0,none⟩) n.toNat c.toNat,w.alloc (.cells ((List.replicate c.toNat e).flatMap enc).toArray E),_,by simp[execOp,aP ea hx,aP ea hy,hk],⟨_,rfl,rfl⟩,?_⟩;have s1:=s.alloc (o:=.cells ((List.replicate c.toNat e).flatMap enc).toArray E);have a0:∀(k:Nat),∀x∈List.replicate k e,(enc x).length=sz:=fun k x hx=>by rw[ge hx,he];exact ht.zlen
  refine Sat.osl_mk (enc:=enc) (sz:=sz) (cap:=c.toNat) (xs:=List.replicate n.toNat e) (L:=L++R) s1 (a0 _) fy (by simp only[maxLen];omega) ?_ ?_
  ·simp only[List.size_toArray];rw[fe (a0 _),List.length_replicate]
  ·have e1:List.replicate c.toNat e=List.replicate n.toNat e++List.replicate (c.toNat - n.toNat) e:=by
    rw[List.replicate_append_replicate];congr 1;omega
   rw[e1,cZ];simp only;rw[List.take_append_of_le_length (by rw[fe (a0 _)];exact aI _),aB (by rw[fe (a0 _)];exact aI _)])
end
end
section
def aa{φ ψ:Prop}(k:ψ)(h:Hid ψ→φ:=by intro k;(repeat1' (first|refine IE ?_|((with_reducible apply GPK.d7);first|refine GPK.keep xH ?_|refine GPK.drop rfl ?_)|with_reducible apply G.seq));exact Hid.out k):φ:=h ⟨k⟩
def IF{φ ψ:Prop}(k:ψ)(h:Hid ψ→φ:=by intro k;(repeat (first|refine aa ?_|intro zzz));(repeat revert zzz);exact Hid.out k):φ:=h ⟨k⟩
def bF{φ ψ:Prop}(k:ψ)(h:Hid ψ→φ:=by intro k;(repeat1' (first|refine IE ?_|((with_reducible apply GPK.d7);first|refine GPK.keep xH ?_|refine GPK.drop rfl ?_)));exact Hid.out k):φ:=h ⟨k⟩
