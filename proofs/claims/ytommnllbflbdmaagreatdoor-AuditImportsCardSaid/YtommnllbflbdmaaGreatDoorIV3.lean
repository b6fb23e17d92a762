/- Regions whose order is open: any order that the edges allow comes to what one plan of them comes to. Holds for any program. -/
import Derived.Test.YtommnllbflbdmaaGreatDoorIV2
import Derived.OrdersHeld
set_option linter.all false
namespace Go.V
section any
variable {P:Program}{ops:Array Oper}{Q:Exit→Act→World→Prop}{md:Region.Mode}
inductive Dep (md:Region.Mode) (ops:Array Oper):Nat→Nat→Prop where
 | one {j i:Nat} {o:Oper} {e:Edge}:ops[j]? = some o→e∈o.after→Region.binds md e=true→e.on=i→Dep md ops j i
 | more {j i:Nat} {o:Oper} {e:Edge}:ops[j]? = some o→e∈o.after→Region.binds md e=true→Dep md ops e.on i→Dep md ops j i
def Closed(md:Region.Mode)(a1:Array Oper)(a0:Array Bool):Prop:=∀j o,a1[j]? = some o→a0.getD j false=true→∀e∈o.after,Region.binds md e=true→a0.getD e.on false=true
def Closed.dep{a0:Array Bool}(h:Closed md ops a0){j i:Nat}(hd:Dep md ops j i)(hj:∀o,ops[j]? = some o→∀e∈o.after,Region.binds md e=true→a0.getD e.on false=true):a0.getD i false=true:=by
 induction hd with
 | one h1 h2 h3 h4=>subst h4;exact hj _ h1 _ h2 h3
 | more h1 h2 h3 _ ih=>exact ih fun o ho e he hb=>h _ o ho (hj _ h1 _ h2 h3) e he hb
def Closed.set{a0:Array Bool}(h:Closed md ops a0){i:Nat}(hi:i∈Region.ready md ops a0):Closed md ops (a0.setIfInBounds i true):=by
 intro j o ho hj e he hb;obtain⟨_,oi,a3,a1⟩:=mem_ready.1 hi;by_cases a2:i=j
 ·subst a2;rw[a3] at ho;cases ho;exact getD_set_true (a1 e he hb)
 ·rw[getD_set_ne false a2] at hj;exact getD_set_true (h j o ho hj e he hb)
def Closed.d7(n:Nat):Closed md ops (Array.replicate n false):=by
 intro j o _ hj;simp[Array.getElem?_replicate] at hj;split at hj<;>simp at hj
abbrev Pend:=List (Nat×(World→Prop))
def kp(dep:Nat→Nat→Bool)(j:Nat)(S:Pend):Pend:=S.filter fun p=>!dep j p.1
def wpAnyP(P:Program)(md:Region.Mode)(a0:Array Oper)(Q:Exit→Act→World→Prop)(dep:Nat→Nat→Bool):Nat→Array Bool→Pend→Act→World→Prop
 | 0,listed,_,a,w=>Region.ready md a0 listed=[]∧Q .normal a w
 | fuel+1,listed,S,a,w =>
  (Region.ready md a0 listed=[]→Q .normal a w) ∧
  ∀j∈Region.ready md a0 listed,wpOp P a0 Q j (fun a' w'=>(∀p∈kp dep j S,p.2 w')∧wpAnyP P md a0 Q dep fuel (listed.setIfInBounds j true) (kp dep j S) a' w') a w
variable {dep:Nat→Nat→Bool}
def wpAnyP.d7:∀(fuel:Nat) (a0:Array Bool) (S:Pend) (a:Act) (w:World),wpAnyP P md ops Q dep fuel a0 S a w→wpAny P md ops Q fuel a0 a w
 | 0,_,_,_,_,h=>h
 | fuel+1,_,_,_,_,h=>⟨h.1,fun j hj=>wpOp_mono (fun a' w' h'=>wpAnyP.d7 fuel _ _ a' w' h'.2) (h.2 j hj)⟩
def wpAnyP.less:∀(fuel:Nat) (a0:Array Bool) (S S' : Pend) (a:Act) (w:World),(∀p∈S',p∈S)→wpAnyP P md ops Q dep fuel a0 S a w→wpAnyP P md ops Q dep fuel a0 S' a w
 | 0,_,_,_,_,_,_,h=>h
 | fuel+1,_,S,S',_,_,hs,h=>⟨h.1,fun j hj=>wpOp_mono (fun a' w' h' =>
   have hk:∀p∈kp dep j S',p∈kp dep j S:=fun p hp=>by
    unfold kp at *;rw[List.mem_filter] at *;exact⟨hs p hp.1,hp.2⟩
   ⟨fun p hp=>h'.1 p (hk p hp),wpAnyP.less fuel _ _ _ a' w' hk h'.2⟩) (h.2 j hj)⟩
def wpAnyP.first{i:Nat}{oi:Oper}{v:Value}{Si:World→Prop}(hi:ops[i]? = some oi)(a6:∀(j:Nat) (o:Oper) cs b,ops[j]? = some o→o.op≠.select cs b)
  (hQ:∀c a w,Q (.panic c) (a.put oi.dst v) w→Q (.panic c) a w) (a9:∀j,dep j i=true→Dep md ops j i) :
  ∀(fuel:Nat) (a0:Array Bool) (S:Pend) (a:Act) (w:World),
   Closed md ops a0 →
   (∀j oj,ops[j]? = some oj→j≠i→a0.getD j true=false→(∀e∈oj.after,Region.binds md e=true→e.on≠i)→oi.apart ops oj=true) →
   i∈Region.ready md ops a0→YieldsIf P ops Si oi v a→Si w→(∀p∈S,p.2 w) →
   wpAnyP P md ops Q dep fuel (a0.setIfInBounds i true) ((i,Si)::S) (a.put oi.dst v) w→wpAnyP P md ops Q dep (fuel+1) a0 S a w:=by
 intro fuel;induction fuel with
 | zero =>
  intro a0 S a w _ _ hr hy hS hP H;refine⟨fun h=>(by rw[h] at hr;cases hr),fun j hj=>?_⟩;by_cases a1:j=i
  ·subst a1;exact hy.wpOp hi hS ⟨fun p hp=>hP p ((List.mem_filter.1 hp).1),H⟩
  ·have:=ready_mono hj a1
   rw[H.1] at this;cases this
 | succ fuel ih =>
  intro a0 S a w b3 a2 hr hy hS hP H;refine⟨fun h=>(by rw[h] at hr;cases hr),fun j hj=>?_⟩;by_cases a1:j=i
  ·subst a1;exact hy.wpOp hi hS ⟨fun p hp=>hP p ((List.mem_filter.1 hp).1),wpAnyP.less _ _ _ _ _ _ (fun p hp=>List.mem_cons_of_mem _ ((List.mem_filter.1 hp).1)) H⟩
  ·have h1:=H.2 j (ready_mono hj a1);obtain⟨a4,oj,a8,a7⟩:=mem_ready.1 hj
   have a5:a0.getD i false=true→False:=fun h1=>by
    have h0:=(mem_ready.1 hr).1;rcases Nat.lt_or_ge i a0.size with h' | h'
    ·simp[h'] at h0 h1;rw[h0] at h1;cases h1
    ·simp[Array.getElem?_eq_none h'] at h1
   have b0:∀e∈oj.after,Region.binds md e=true→e.on≠i:=fun e he hb b7=>a5 (b7▸a7 e he hb)
   have b4:dep j i=false:=by
    cases hd:dep j i with
    | false=>rfl
    | true=>exact(a5 (b3.dep (a9 j hd) fun o ho e he hb=>by rw[a8] at ho;cases ho;exact a7 e he hb)).elim
   have h2:=wpOp_putIf a8 (a2 j oj a8 a1 a4 b0) (fun cs b=>a6 i oi cs b hi) (fun cs b=>a6 j oj cs b a8) hQ hy h1
   have a3 : ∀k ok,ops[k]? = some ok→k≠i→(a0.setIfInBounds j true).getD k true=false →
     (∀e∈ok.after,Region.binds md e=true→e.on≠i)→oi.apart ops ok=true:=fun k ok hk b8 b2 b6=>by
    refine a2 k ok hk b8 ?_ b6;by_cases b1:j=k
    ·subst b1;exact a4
    ·rw[getD_set_ne true b1] at b2;exact b2
   have b5:kp dep j ((i,Si)::S)=(i,Si)::kp dep j S:=by simp[kp,b4]
   rw[b5] at h2;refine wpOp_mono (fun a' w' h3=>⟨fun p hp=>h3.2.1 p (List.mem_cons_of_mem _ hp),ih (a0.setIfInBounds j true) _ a' w' (b3.set hj) a3 (ready_mono hr (Ne.symm a1)) h3.1 (h3.2.1 _ List.mem_cons_self) (fun p hp=>h3.2.1 p (List.mem_cons_of_mem _ hp)) ?_⟩) h2;rw[Array.setIfInBounds_comm _ _ a1];exact h3.2.2
end any
def dV(n:Nat):List Nat→Array Bool
 | []=>Array.replicate n false
 | i::r=>(dV n r).setIfInBounds i true
def depB(a0:Array Oper):Nat→Nat→Nat→Bool
 | 0,_,_=>false
 | fuel+1,j,i=>match a0[j]? with
  | none=>false
  | some o=>o.after.toList.any fun e=>Region.binds .any e && (e.on == i || depB a0 fuel e.on i)
def ry{a0:Array Oper}:∀(fuel j i:Nat),depB a0 fuel j i=true→Dep .any a0 j i
 | 0,_,_,h=>by simp[depB] at h
 | fuel+1,j,i,h=>by
  unfold depB at h;cases ho:a0[j]? with
  | none=>rw[ho] at h;simp at h
  | some o =>
   rw[ho] at h;simp only[List.any_eq_true] at h;obtain⟨e,he,h⟩:=h;have a1 : e∈o.after:=by simpa using he
   simp only[Bool.and_eq_true,Bool.or_eq_true,beq_iff_eq] at h;rcases h with⟨hb,h|h⟩
   ·exact .one ho a1 hb h
   ·exact .more ho a1 hb (ry fuel _ i h)
inductive Stp where
 | ev (i:Nat)
 | ef (i:Nat)
def jD(a0:Array Oper)(done:List Nat):List Stp→Bool
 | []=>(Region.ready .any a0 (dV a0.size done)).isEmpty
 | .ev i::r=>(Region.ready .any a0 (dV a0.size done)).contains i && Region.free .any a0 (dV a0.size done) i && jD a0 (i::done) r
 | .ef i::r=>(Region.ready .any a0 (dV a0.size done) == [i]) && jD a0 (i::done) r
structure PE where
 idx:Nat
 op:Op
 ty:TypeId
 env:Env
 v:Value
def lI(P:Program)(a0:List PE)(S:Pend):Prop:=∀p∈S,(∀w,p.2 w)∨∃pe∈a0,pe.idx=p.1∧∃ρ o,Agr pe.env ρ∧o.op=pe.op∧o.type=pe.ty∧∀w,(execOp ρ o).run P w=.ok (.value pe.v) w→p.2 w
def dpB(a0:Array Oper)(j i:Nat):Bool:=depB a0 a0.size j i
class NoP (K:Post):Prop where
 no:∀c env L,¬K (.panic c) env L
 out:∀env L,¬K .outgrown env L
instance {n:Env→LH→Prop}{K:Post}[h:NoP K]:NoP (Post.seq n K):=⟨fun c env L=>h.no c env L,fun env L=>h.out env L⟩
instance {id:Nat}{K:Post}[h:NoP K]:NoP (Post.inBlock id K):=⟨fun c env L=>h.no c env L,fun env L=>h.out env L⟩
instance {P:Program}{N:Nat}{rs:List ResultVar}{post:Value→LH→Prop}:NoP (Ends P N rs post):=⟨(by
 rintro c env L ⟨h,_⟩;rcases h with h|h
 ·cases h
 ·cases h),(by
 rintro env L ⟨h,_⟩;rcases h with h|h
 ·cases h
 ·cases h)⟩
def GP(P:Program)(N:Nat)(a0:Array Oper)(done:List Nat)(plan:List Stp)(a1:List PE)(env:Env)(L:LH)(K:Post):Prop :=
 NoP K→jD a0 done plan=true→Region.noSelect a0=true→Closed .any a0 (dV a0.size done) →
 ∀θ Y a w S,At N env L θ Y a w→lI P a1 S→(∀p∈S,p.2 w) →
  wpAnyP P .any a0 (QK θ Y N K) (dpB a0) plan.length (dV a0.size done) S a w
def noDefer(a0:Array Oper):Bool:=a0.all fun o=>match o.op with
 | .defer _=>false
 | _=>true
def wz{a0:Array Oper}(h:noDefer a0=true){i:Nat}{o:Oper}(hi:a0[i]? = some o):∀c,o.op≠.defer c:=by
 intro c hc;have h1:=Array.all_eq_true.1 h i (Array.getElem?_eq_some_iff.1 hi).1;rw[(Array.getElem?_eq_some_iff.1 hi).2] at h1;simp[hc] at h1
def CD{P:Program}{r:Option Nat}{a0:Array Oper}{Q:Exit→Act→World→Prop}(hd:noDefer a0=true)(hq:¬LetsOut Q){i:Nat}{K K' : Act→World→Prop}{a:Act}{w:World}(hk:∀a w,K a w→K' a w)(h:wpOp P a0 Q i K a w):wpOpIn (FW r) 0 P a0 Q i K' a w:=by
 have h:=wpOp_mono hk h;unfold wpOp at h;unfold wpOpIn;cases hi:a0[i]? with
 | none=>simp only[hi] at h ⊢;exact h
 | some o =>
  simp only[hi] at h ⊢;split
  ·rename_i hw;simp only[hw,if_true] at h;rcases h with h|h
   ·exact lR (wz hd hi) h
   ·exact absurd h.2 hq
  ·rename_i hw;simp only[hw] at h;exact⟨fun _ _=>trivial,h⟩
def nT{P:Program}{r:Option Nat}{md:Region.Mode}{a1:Array Oper}{Q:Exit→Act→World→Prop}(hd:noDefer a1=true)(hq:¬LetsOut Q):∀(fuel:Nat) (a0:Array Bool) (a:Act) (w:World),wpAny P md a1 Q fuel a0 a w→wpAnyIn (FW r) 0 P md a1 Q fuel a0 a w
 | 0,_,_,_,h=>h
 | fuel+1,_,_,_,h=>⟨h.1,fun i hi=>CD hd hq (fun a w=>nT hd hq fuel _ a w) (h.2 i hi)⟩
def Stp.idx:Stp→Nat
 | .ev i=>i
 | .ef i=>i
def GPW(P:Program)(N:Nat)(a1:Array Oper)(done:List Nat)(s:Stp)(plan:List Stp)(a2:Option Tmp)(op:Op)(ty:TypeId)(a0:List PE)(env:Env)(L:LH)(K:Post):Prop :=
 ∀pos af g,a1[s.idx]? = some ⟨a2,op,ty,pos,af,g⟩→(∀a,EnvOk N env a→Region.wanted ⟨a2,op,ty,pos,af,g⟩ (yielded a1 a.tmps)=true)→GP P N a1 done (s::plan) a0 env L K
def GPK(P:Program)(N:Nat)(a2:Array Oper)(done:List Nat)(i:Nat)(plan:List Stp)(a1 acc:List PE)(env:Env)(L:LH)(K:Post):Prop :=
 ∃a0:List PE,(∀pe∈a1,dpB a2 i pe.idx=true∨(pe∈a0∧Ev P L pe.env pe.op pe.ty pe.v))∧(∀pe∈acc,pe∈a0)∧GP P N a2 (i::done) plan a0 env L K
section gp
variable {P:Program}{N:Nat}{ops:Array Oper}{done:List Nat}{plan:List Stp}{pend:List PE}{env:Env}{L:LH}{K:Post}
def G.d7{id:Nat}{l:List Oper}(plan:List Stp)[hK:NoP K](hm:P.follows .mixedOrders=true)(hp:(jD l.toArray [] plan && (plan.length == l.toArray.size) && Region.noSelect l.toArray && noDefer l.toArray)=true)(h:GP P N l.toArray [] plan [] env L K):G P N (.region id l.toArray true) env L K:=by
 intro r θ Y a w hr i;simp only[Bool.and_eq_true,beq_iff_eq] at hp;obtain⟨⟨⟨h1,h2⟩,h3⟩,h4⟩:=hp;refine wpIn_region_any hm (nT h4 (by rintro⟨a',w',env,L,_,h⟩;exact hK.out env L h) _ _ _ _ (wpAnyP.d7 (dep:=dpB l.toArray) _ _ [] _ _ ?_));obtain⟨M,ea,a0,s⟩:=i;have:=h hK h1 h3 (Closed.d7 _) θ Y a { w with drawn:=w.drawn+1 } [] ⟨M,ea,a0,s.drew⟩ (by intro p hp;cases hp) (by simp)
 rw[h2] at this;exact this
def GP.nil(h:K .normal env L):GP P N ops done [] pend env L K:=by
 intro _ hp _ _ θ Y a w S i _ _;simp only[jD,List.isEmpty_iff] at hp;exact⟨hp,env,L,i,h⟩
def xB{θ:Th}{R:LH}(hK:NoP K)(c:List PanicEntry)(a:Act)(w:World):¬QK θ R N K (.panic c) a w:=fun⟨env,L,_,h⟩=>hK.no c env L h
def GP.d8{i d:Nat}{op:Op}{ty:TypeId}{pos:String}{af:Array Edge}{g:Option (Nat×Bool)}{v:Value}{a0 : List PE}(hi:ops[i]? = some ⟨some d,op,ty,pos,af,g⟩)(hd:d<N)
  (hy:∀θ R a w,EnvOk N env a→Sat θ (L++R) w→∃Si,YieldsIf P ops Si ⟨some d,op,ty,pos,af,g⟩ v a∧Si w∧∀S,lI P pend S→lI P a0 ((i,Si)::S))
  (h:GP P N ops (i::done) plan a0 ((d,v)::env) L K):GP P N ops done (.ev i::plan) pend env L K:=by
 intro hK hp hs a2 θ Y a w S i0 a5 a4;simp only[jD,Bool.and_eq_true,List.contains_iff_mem] at hp;obtain⟨⟨h1,h2⟩,h3⟩:=hp;obtain⟨M,ea,a6,s⟩:=i0;obtain⟨Si,a7,a3,a8⟩:=hy θ _ a w ea s
 have a1:∀p∈(i,Si)::S,p.2 w:=fun p hp=>by
  rcases List.mem_cons.1 hp with rfl|hp
  ·exact a3
  ·exact a4 p hp
 refine wpAnyP.first hi (Region.noSelect_spec hs) (fun c a w q=>(xB hK c _ w q).elim) (fun j hj=>ry _ j i hj) _ _ S a w a2 (Region.free_spec hi h2) h1 a7 a3 a4 ?_;exact h hK h3 hs (a2.set h1) θ Y (a.put (some d) v) w _ ⟨M,ea.put hd v,by rw[defers_put];exact a6,s⟩ (a8 S a5) a1
def GPW.evP{i d:Nat}{op:Op}{ty:TypeId}{v:Value}(he:Ev P [] env op ty v)(hd:d<N)(h:GP P N ops (i::done) plan pend ((d,v)::env) L K):GPW P N ops done (.ev i) plan (some d) op ty pend env L K:=by
 intro pos af g hi hw;refine GP.d8 hi hd (fun θ R a w ea s=>⟨fun _=>True,.inl ⟨hw a ea,?_⟩,trivial,fun S hS p hp=>?_⟩) h
 ·intro w' _;exact he ⟨w'.tape,w'.os,w'.output,0⟩ [] a.eval w' _ ea.agr ⟨⟨rfl,rfl,rfl,Nat.zero_le _⟩,Hp.emp,Hp.emp,Hp.d8 _,Hp.d7 _,Hp.d7 _,trivial⟩ rfl rfl
 ·rcases List.mem_cons.1 hp with rfl|hp
  ·exact .inl fun _=>trivial
  ·exact hS p hp
def GPW.evL{i d:Nat}{op:Op}{ty:TypeId}{v:Value}(he:Ev P L env op ty v)(hd:d<N)(h:GP P N ops (i::done) plan (⟨i,op,ty,env,v⟩::pend) ((d,v)::env) L K):GPW P N ops done (.ev i) plan (some d) op ty pend env L K:=by
 intro pos af g hi hw;refine GP.d8 hi hd (fun θ R a w ea s=>⟨fun w'=>(execOp a.eval ⟨some d,op,ty,pos,af,g⟩).run P w' = .ok (.value v) w',.inl ⟨hw a ea,fun w' h=>h⟩,he θ R a.eval w _ ea.agr s rfl rfl,fun S hS p hp=>?_⟩) h;rcases List.mem_cons.1 hp with rfl|hp
 ·exact .inr ⟨_,List.mem_cons_self,rfl,a.eval,_,ea.agr,rfl,rfl,fun w h=>h⟩
 ·rcases hS p hp with h|⟨pe,h1,h2⟩
  ·exact .inl h
  ·exact .inr ⟨pe,List.mem_cons_of_mem _ h1,h2⟩
def GP.d9{i d:Nat}{op:Op}{ty:TypeId}{pos:String}{af:Array Edge}{g:Option (Nat×Bool)}(hi:ops[i]? = some ⟨some d,op,ty,pos,af,g⟩)(hd:d<N)(hw:∀a,EnvOk N env a→Region.wanted ⟨some d,op,ty,pos,af,g⟩ (yielded ops a.tmps)=false)
  (h:GP P N ops (i::done) plan pend ((d,undef)::env) L K):GP P N ops done (.ev i::plan) pend env L K:=by
 refine GP.d8 hi hd (fun θ R a w ea s=>⟨fun _=>True,.inr ⟨hw a ea,rfl⟩,trivial,fun S hS p hp=>?_⟩) h;rcases List.mem_cons.1 hp with rfl|hp
 ·exact .inl fun _=>trivial
 ·exact hS p hp
def GPK.nil{i:Nat}{acc:List PE}(h:GP P N ops (i::done) plan acc env L K):GPK P N ops done i plan [] acc env L K:=⟨acc,(by intro pe h;cases h),fun _ h=>h,h⟩
def GPK.drop{i:Nat}{pe:PE}{ts acc:List PE}(hd:dpB ops i pe.idx=true)(h:GPK P N ops done i plan ts acc env L K):GPK P N ops done i plan (pe::ts) acc env L K:=by
 obtain⟨a0,h1,h2,h3⟩:=h;refine⟨a0,fun p hp=>?_,h2,h3⟩;rcases List.mem_cons.1 hp with rfl|hp
 ·exact .inl hd
 ·exact h1 p hp
def GPK.keep{i k:Nat}{op:Op}{ty:TypeId}{a0 : Env}{v:Value}{ts acc:List PE}(hd:Ev P L a0 op ty v)(h:GPK P N ops done i plan ts (⟨k,op,ty,a0,v⟩::acc) env L K):GPK P N ops done i plan (⟨k,op,ty,a0,v⟩::ts) acc env L K:=by
 obtain⟨a1,h1,h2,h3⟩:=h;refine⟨a1,fun p hp=>?_,fun p hp=>h2 p (List.mem_cons_of_mem _ hp),h3⟩;rcases List.mem_cons.1 hp with rfl|hp
 ·exact .inr ⟨h2 _ List.mem_cons_self,hd⟩
 ·exact h1 p hp
def GPK.step{i:Nat}(h:GPK P N ops done i plan pend [] env L K){θ:Th}{R:LH}{a:Act}{w:World}{S:Pend}(hK:NoP K)(h3:jD ops (i::done) plan=true)(hs:Region.noSelect ops=true)(a6:Closed .any ops (dV ops.size (i::done)))(i0:At N env L θ R a w)(a3:lI P pend S) :
  (∀p∈kp (dpB ops) i S,p.2 w)∧wpAnyP P .any ops (QK θ R N K) (dpB ops) plan.length (dV ops.size (i::done)) (kp (dpB ops) i S) a w:=by
 obtain⟨a0,k1,_,k3⟩:=h;obtain⟨M,ea,a4,s⟩:=i0
 have a1:∀p∈kp (dpB ops) i S,p.2 w∧((∀w,p.2 w)∨∃pe∈a0,pe.idx=p.1∧∃ρ o,Agr pe.env ρ∧o.op=pe.op∧o.type=pe.ty∧∀w,(execOp ρ o).run P w=.ok (.value pe.v) w→p.2 w):=by
  intro p hp;obtain⟨a7,a2⟩:=List.mem_filter.1 hp;rcases a3 p a7 with h|⟨pe,h1,h2,ρ,o,h4,h5,h6,h7⟩
  ·exact⟨h w,.inl h⟩
  ·rcases k1 pe h1 with hd|⟨hk,a5⟩
   ·rw[h2] at hd;rw[hd] at a2;simp at a2
   ·exact⟨h7 w (a5 θ _ ρ w o h4 s h5 h6),.inr ⟨pe,hk,h2,ρ,o,h4,h5,h6,h7⟩⟩
 exact⟨fun p hp=>(a1 p hp).1,k3 hK h3 hs a6 θ R a w _ ⟨M,ea,a4,s⟩ (fun p hp=>(a1 p hp).2) (fun p hp=>(a1 p hp).1)⟩
def GPW.ef{i d:Nat}{op:Op}{ty:TypeId}{post:Value→LH→Prop}(he:Ef P L env op ty post)(hd:d<N)(h:∀v L',post v L'→GPK P N ops done i plan pend [] ((d,v)::env) L' K):GPW P N ops done (.ef i) plan (some d) op ty pend env L K:=by
 intro pos af g hi hw hK hp hs a6 θ Y a w S i0 a1 a7;obtain⟨M,ea,a2,s⟩:=i0;simp only[jD,Bool.and_eq_true,beq_iff_eq] at hp;obtain⟨h1,h3⟩:=hp;have a5:i∈Region.ready .any ops (dV ops.size done):=by rw[h1];exact List.mem_singleton.2 rfl
 refine⟨fun h0=>(by rw[h0] at h1;cases h1),fun j hj=>?_⟩;rw[h1] at hj;have a3:j=i:=List.mem_singleton.1 hj;subst a3;have a4 : ops[j]? = some ⟨some d,op,ty,pos,af,g⟩:=hi;unfold wpOp;simp only[a4,hw a ea,if_true];refine .inl (he θ _ a w _ _ _ ea.agr s rfl rfl fun v L' w' a0 s'=>?_);exact(h v L' a0).step hK h3 hs (a6.set a5) ⟨M,ea.put hd v,by rw[defers_put];exact a2,s'⟩ a1
def GPW.efu{i:Nat}{op:Op}{ty:TypeId}{post:Value→LH→Prop}(he:Ef P L env op ty post)(h:∀v L',post v L'→GPK P N ops done i plan pend [] env L' K):GPW P N ops done (.ef i) plan none op ty pend env L K:=by
 intro pos af g hi hw hK hp hs a6 θ Y a w S i0 a1 a7;obtain⟨M,ea,a2,s⟩:=i0;simp only[jD,Bool.and_eq_true,beq_iff_eq] at hp;obtain⟨h1,h3⟩:=hp;have a5:i∈Region.ready .any ops (dV ops.size done):=by rw[h1];exact List.mem_singleton.2 rfl
 refine⟨fun h0=>(by rw[h0] at h1;cases h1),fun j hj=>?_⟩;rw[h1] at hj;have a3:j=i:=List.mem_singleton.1 hj;subst a3;have a4 : ops[j]? = some ⟨none,op,ty,pos,af,g⟩:=hi;unfold wpOp;simp only[a4,hw a ea,if_true];refine .inl (he θ _ a w _ _ _ ea.agr s rfl rfl fun v L' w' a0 s'=>?_);exact(h v L' a0).step hK h3 hs (a6.set a5) ⟨M,ea,a2,s'⟩ a1
def GP.d7{i d:Nat}{op:Op}{ty:TypeId}{pos:String}{af:Array Edge}{g:Option (Nat×Bool)}(hi:ops[i]? = some ⟨some d,op,ty,pos,af,g⟩)(hd:d<N)(hw:∀a,EnvOk N env a→Region.wanted ⟨some d,op,ty,pos,af,g⟩ (yielded ops a.tmps)=false)
  (h:GP P N ops (i::done) plan pend ((d,undef)::env) L K):GP P N ops done (.ef i::plan) pend env L K:=by
 intro hK hp hs a4 θ Y a w S i0 a1 a0;simp only[jD,Bool.and_eq_true,beq_iff_eq] at hp;obtain⟨h1,h3⟩:=hp;have ea:=i0.eok;have a3:i∈Region.ready .any ops (dV ops.size done):=by rw[h1];exact List.mem_singleton.2 rfl
 refine⟨fun h0=>(by rw[h0] at h1;cases h1),fun j hj=>?_⟩;rw[h1] at hj;have a2:j=i:=List.mem_singleton.1 hj;subst a2;unfold wpOp;simp only[hi,hw a ea,Bool.false_eq_true,if_false];exact⟨fun p hp=>a0 p (List.mem_filter.1 hp).1,h hK h3 hs (a4.set a3) θ Y _ w _ (i0.put hd undef) (fun p hp=>a1 p (List.mem_filter.1 hp).1) (fun p hp=>a0 p (List.mem_filter.1 hp).1)⟩
def GP.go{s:Stp}{a0:Option Tmp}{op:Op}{ty:TypeId}{pos:String}{af:Array Edge}(hi:ops[s.idx]? = some ⟨a0,op,ty,pos,af,none⟩)(h:GPW P N ops done s plan a0 op ty pend env L K):GP P N ops done (s::plan) pend env L K :=
 h pos af none hi fun _ _=>rfl
def nS{j t:Nat}{v:Value}(hj:(ops[j]?).bind (·.dst)=some t)(ht:env.lookup t=some v){a:Act}(ea:EnvOk N env a):yielded ops a.tmps j=match v with | .bool b=>some b|_=>none:=by
 unfold yielded;rw[hj];simp only[Option.bind_some,ea.at_ t _ ht];cases v<;>rfl
def GP.env_cons{t:Nat}{v:Value}(ht:env.lookup t=some v)(h:GP P N ops done plan pend ((t,v)::env) L K):GP P N ops done plan pend env L K :=
 fun hK hp hs a2 θ R a w S i a0 a1=>h hK hp hs a2 θ R a w S (i.less (EnvSub.cons ht (EnvSub.refl _)) (Ent.refl _)) a0 a1
def GP.guard{s:Stp}{d:Nat}{op:Op}{ty:TypeId}{pos:String}{af:Array Edge}{j t:Nat}{b c:Bool}(hi:ops[s.idx]? = some ⟨some d,op,ty,pos,af,some (j,b)⟩)(hj:(ops[j]?).bind (·.dst)=some t)(ht:env.lookup t=some (.bool c))(hd:d<N)
  (hy:c=b→GPW P N ops done s plan (some d) op ty pend env L K) (hn:c≠b→GP P N ops (s.idx::done) plan pend ((d,undef)::env) L K):GP P N ops done (s::plan) pend env L K:=by
 by_cases a0:c=b
 ·subst a0;exact hy rfl pos af _ hi fun a ea=>by simp[Region.wanted,nS hj ht ea]
 ·have hw:∀a,EnvOk N env a→Region.wanted ⟨some d,op,ty,pos,af,some (j,b)⟩ (yielded ops a.tmps)=false:=fun a ea=>by
   simp[Region.wanted,nS hj ht ea,a0]
  cases s with
  | ev i=>exact GP.d9 hi hd hw (hn a0)
  | ef i=>exact GP.d7 hi hd hw (hn a0)
def GP.e7{s:Stp}{d:Nat}{op:Op}{ty:TypeId}{pos:String}{af:Array Edge}{j t:Nat}{b:Bool}(hi:ops[s.idx]? = some ⟨some d,op,ty,pos,af,some (j,b)⟩)(hj:(ops[j]?).bind (·.dst)=some t)(ht:env.lookup t=some undef)(hd:d<N)
  (hn:GP P N ops (s.idx::done) plan pend ((d,undef)::env) L K):GP P N ops done (s::plan) pend env L K:=by
 have hw:∀a,EnvOk N env a→Region.wanted ⟨some d,op,ty,pos,af,some (j,b)⟩ (yielded ops a.tmps)=false:=fun a ea=>by
  simp[Region.wanted,nS hj ht ea,undef]
 cases s with
 | ev i=>exact GP.d9 hi hd hw hn
 | ef i=>exact GP.d7 hi hd hw hn
def GP.e8{s:Stp}{d:Nat}{op:Op}{ty:TypeId}{pos:String}{af:Array Edge}{j t:Nat}{c:Bool}(hi:ops[s.idx]? = some ⟨some d,op,ty,pos,af,some (j,true)⟩)(hj:(ops[j]?).bind (·.dst)=some t)(ht:env.lookup t=some (.bool c))(hd:d<N)
  (h:GB c (GPW P N ops done s plan (some d) op ty pend env L K) (GP P N ops done (s::plan) pend ((t,.bool true)::env) L K) (GP P N ops (s.idx::done) plan pend ((d,undef)::env) L K) (GP P N ops done (s::plan) pend ((t,.bool false)::env) L K)):GP P N ops done (s::plan) pend env L K:=by
 cases c with
 | true =>
  rcases h.1 rfl with h|h
  ·exact GP.guard hi hj ht hd (fun _=>h) (fun h=>absurd rfl h)
  ·exact h.env_cons ht
 | false =>
  rcases h.2 rfl with h|h
  ·exact GP.guard hi hj ht hd (fun h=>by cases h) (fun _=>h)
  ·exact h.env_cons ht
def GP.e9{s:Stp}{d:Nat}{op:Op}{ty:TypeId}{pos:String}{af:Array Edge}{j t:Nat}{c:Bool}(hi:ops[s.idx]? = some ⟨some d,op,ty,pos,af,some (j,false)⟩)(hj:(ops[j]?).bind (·.dst)=some t)(ht:env.lookup t=some (.bool c))(hd:d<N)
  (h:GB c (GP P N ops (s.idx::done) plan pend ((d,undef)::env) L K) (GP P N ops done (s::plan) pend ((t,.bool true)::env) L K) (GPW P N ops done s plan (some d) op ty pend env L K) (GP P N ops done (s::plan) pend ((t,.bool false)::env) L K)):GP P N ops done (s::plan) pend env L K:=by
 cases c with
 | true =>
  rcases h.1 rfl with h|h
  ·exact GP.guard hi hj ht hd (fun h=>by cases h) (fun _=>h)
  ·exact h.env_cons ht
 | false =>
  rcases h.2 rfl with h|h
  ·exact GP.guard hi hj ht hd (fun _=>h) (fun h=>absurd rfl h)
  ·exact h.env_cons ht
def GP.conseq{a0 : Env}(he:EnvSub env a0)(h:GP P N ops done plan pend a0 L K):GP P N ops done plan pend env L K :=
 fun hK hp hs a3 θ R a w S i a1 a2=>h hK hp hs a3 θ R a w S (i.less he (Ent.refl _)) a1 a2
