/- Regions whose order is open: any order that the edges allow comes to what one plan of them comes to. Holds for any program. -/
import Derived.Test.YtommnllbflbdmaaGreatDoorLV2
import Derived.OrdersHeld
set_option linter.all false
namespace Go.V
section any
variable {P:Program}{ops:Array Oper}{Q:Exit→Act→World→Prop}{md:Region.Mode}
inductive Dep (md:Region.Mode) (ops:Array Oper):Nat→Nat→Prop where
 | one {j i:Nat} {o:Oper} {e:Edge}:ops[j]? = some o→e∈o.after→Region.binds md e=true→e.on=i→Dep md ops j i
 | more {j i:Nat} {o:Oper} {e:Edge}:ops[j]? = some o→e∈o.after→Region.binds md e=true→Dep md ops e.on i→Dep md ops j i
def Closed(md:Region.Mode)(ops:Array Oper)(listed:Array Bool):Prop:=∀j o,ops[j]? = some o→listed.getD j false=true→∀e∈o.after,Region.binds md e=true→listed.getD e.on false=true
theorem Closed.dep{listed:Array Bool}(h:Closed md ops listed){j i:Nat}(hd:Dep md ops j i)(hj:∀o,ops[j]? = some o→∀e∈o.after,Region.binds md e=true→listed.getD e.on false=true):listed.getD i false=true:=by
 induction hd with
 | one h1 h2 h3 h4=>subst h4;exact hj _ h1 _ h2 h3
 | more h1 h2 h3 _ ih=>exact ih fun o ho e he hb=>h _ o ho (hj _ h1 _ h2 h3) e he hb
theorem Closed.set{listed:Array Bool}(h:Closed md ops listed){i:Nat}(hi:i∈Region.ready md ops listed):Closed md ops (listed.setIfInBounds i true):=by
 intro j o ho hj e he hb;obtain⟨_,oi,hoi,hall⟩:=mem_ready.1 hi;by_cases hij:i=j
 ·subst hij;rw[hoi] at ho;cases ho;exact getD_set_true (hall e he hb)
 ·rw[getD_set_ne false hij] at hj;exact getD_set_true (h j o ho hj e he hb)
theorem Closed.d7(n:Nat):Closed md ops (Array.replicate n false):=by
 intro j o _ hj;simp[Array.getElem?_replicate] at hj;split at hj<;>simp at hj
abbrev Pend:=List (Nat×(World→Prop))
def kp(dep:Nat→Nat→Bool)(j:Nat)(S:Pend):Pend:=S.filter fun p=>!dep j p.1
def wpAnyP(P:Program)(md:Region.Mode)(ops:Array Oper)(Q:Exit→Act→World→Prop)(dep:Nat→Nat→Bool):Nat→Array Bool→Pend→Act→World→Prop
 | 0,listed,_,a,w=>Region.ready md ops listed=[]∧Q .normal a w
 | fuel+1,listed,S,a,w =>
  (Region.ready md ops listed=[]→Q .normal a w) ∧
  ∀j∈Region.ready md ops listed,wpOp P ops Q j (fun a' w'=>(∀p∈kp dep j S,p.2 w')∧wpAnyP P md ops Q dep fuel (listed.setIfInBounds j true) (kp dep j S) a' w') a w
variable {dep:Nat→Nat→Bool}
theorem wpAnyP.d7:∀(fuel:Nat) (listed:Array Bool) (S:Pend) (a:Act) (w:World),wpAnyP P md ops Q dep fuel listed S a w→wpAny P md ops Q fuel listed a w
 | 0,_,_,_,_,h=>h
 | fuel+1,_,_,_,_,h=>⟨h.1,fun j hj=>wpOp_mono (fun a' w' h'=>wpAnyP.d7 fuel _ _ a' w' h'.2) (h.2 j hj)⟩
theorem wpAnyP.less:∀(fuel:Nat) (listed:Array Bool) (S S' : Pend) (a:Act) (w:World),(∀p∈S',p∈S)→wpAnyP P md ops Q dep fuel listed S a w→wpAnyP P md ops Q dep fuel listed S' a w
 | 0,_,_,_,_,_,_,h=>h
 | fuel+1,_,S,S',_,_,hs,h=>⟨h.1,fun j hj=>wpOp_mono (fun a' w' h' =>
   have hk:∀p∈kp dep j S',p∈kp dep j S:=fun p hp=>by
    unfold kp at *;rw[List.mem_filter] at *;exact⟨hs p hp.1,hp.2⟩
   ⟨fun p hp=>h'.1 p (hk p hp),wpAnyP.less fuel _ _ _ a' w' hk h'.2⟩) (h.2 j hj)⟩
theorem wpAnyP.first{i:Nat}{oi:Oper}{v:Value}{Si:World→Prop}(hi:ops[i]? = some oi)(hsel:∀(j:Nat) (o:Oper) cs b,ops[j]? = some o→o.op≠.select cs b)
  (hQ:∀c a w,Q (.panic c) (a.put oi.dst v) w→Q (.panic c) a w) (hdep:∀j,dep j i=true→Dep md ops j i) :
  ∀(fuel:Nat) (listed:Array Bool) (S:Pend) (a:Act) (w:World),
   Closed md ops listed →
   (∀j oj,ops[j]? = some oj→j≠i→listed.getD j true=false→(∀e∈oj.after,Region.binds md e=true→e.on≠i)→oi.apart ops oj=true) →
   i∈Region.ready md ops listed→YieldsIf P ops Si oi v a→Si w→(∀p∈S,p.2 w) →
   wpAnyP P md ops Q dep fuel (listed.setIfInBounds i true) ((i,Si)::S) (a.put oi.dst v) w→wpAnyP P md ops Q dep (fuel+1) listed S a w:=by
 intro fuel;induction fuel with
 | zero =>
  intro listed S a w _ _ hr hy hS hP H;refine⟨fun h=>(by rw[h] at hr;cases hr),fun j hj=>?_⟩;by_cases hji:j=i
  ·subst hji;exact hy.wpOp hi hS ⟨fun p hp=>hP p ((List.mem_filter.1 hp).1),H⟩
  ·have:=ready_mono hj hji
   rw[H.1] at this;cases this
 | succ fuel ih =>
  intro listed S a w hcl hfree hr hy hS hP H;refine⟨fun h=>(by rw[h] at hr;cases hr),fun j hj=>?_⟩;by_cases hji:j=i
  ·subst hji;exact hy.wpOp hi hS ⟨fun p hp=>hP p ((List.mem_filter.1 hp).1),wpAnyP.less _ _ _ _ _ _ (fun p hp=>List.mem_cons_of_mem _ ((List.mem_filter.1 hp).1)) H⟩
  ·have h1:=H.2 j (ready_mono hj hji);obtain⟨hjun,oj,hoj,hall⟩:=mem_ready.1 hj
   have hiun:listed.getD i false=true→False:=fun h1=>by
    have h0:=(mem_ready.1 hr).1;rcases Nat.lt_or_ge i listed.size with h' | h'
    ·simp[h'] at h0 h1;rw[h0] at h1;cases h1
    ·simp[Array.getElem?_eq_none h'] at h1
   have hnot:∀e∈oj.after,Region.binds md e=true→e.on≠i:=fun e he hb heq=>hiun (heq▸hall e he hb)
   have hnd:dep j i=false:=by
    cases hd:dep j i with
    | false=>rfl
    | true=>exact(hiun (hcl.dep (hdep j hd) fun o ho e he hb=>by rw[hoj] at ho;cases ho;exact hall e he hb)).elim
   have h2:=wpOp_putIf hoj (hfree j oj hoj hji hjun hnot) (fun cs b=>hsel i oi cs b hi) (fun cs b=>hsel j oj cs b hoj) hQ hy h1
   have hfree' : ∀k ok,ops[k]? = some ok→k≠i→(listed.setIfInBounds j true).getD k true=false →
     (∀e∈ok.after,Region.binds md e=true→e.on≠i)→oi.apart ops ok=true:=fun k ok hk hki hun hno=>by
    refine hfree k ok hk hki ?_ hno;by_cases hjk:j=k
    ·subst hjk;exact hjun
    ·rw[getD_set_ne true hjk] at hun;exact hun
   have hkp:kp dep j ((i,Si)::S)=(i,Si)::kp dep j S:=by simp[kp,hnd]
   rw[hkp] at h2;refine wpOp_mono (fun a' w' h3=>⟨fun p hp=>h3.2.1 p (List.mem_cons_of_mem _ hp),ih (listed.setIfInBounds j true) _ a' w' (hcl.set hj) hfree' (ready_mono hr (Ne.symm hji)) h3.1 (h3.2.1 _ List.mem_cons_self) (fun p hp=>h3.2.1 p (List.mem_cons_of_mem _ hp)) ?_⟩) h2;rw[Array.setIfInBounds_comm _ _ hji];exact h3.2.2
end any
def dS(n:Nat):List Nat→Array Bool
 | []=>Array.replicate n false
 | i::r=>(dS n r).setIfInBounds i true
def depB(ops:Array Oper):Nat→Nat→Nat→Bool
 | 0,_,_=>false
 | fuel+1,j,i=>match ops[j]? with
  | none=>false
  | some o=>o.after.toList.any fun e=>Region.binds .any e && (e.on == i || depB ops fuel e.on i)
theorem rc{ops:Array Oper}:∀(fuel j i:Nat),depB ops fuel j i=true→Dep .any ops j i
 | 0,_,_,h=>by simp[depB] at h
 | fuel+1,j,i,h=>by
  unfold depB at h;cases ho:ops[j]? with
  | none=>rw[ho] at h;simp at h
  | some o =>
   rw[ho] at h;simp only[List.any_eq_true] at h;obtain⟨e,he,h⟩:=h;have he' : e∈o.after:=by simpa using he
   simp only[Bool.and_eq_true,Bool.or_eq_true,beq_iff_eq] at h;rcases h with⟨hb,h|h⟩
   ·exact .one ho he' hb h
   ·exact .more ho he' hb (rc fuel _ i h)
inductive Stp where
 | ev (i:Nat)
 | ef (i:Nat)
def jr(ops:Array Oper)(done:List Nat):List Stp→Bool
 | []=>(Region.ready .any ops (dS ops.size done)).isEmpty
 | .ev i::r=>(Region.ready .any ops (dS ops.size done)).contains i && Region.free .any ops (dS ops.size done) i && jr ops (i::done) r
 | .ef i::r=>(Region.ready .any ops (dS ops.size done) == [i]) && jr ops (i::done) r
structure PE where
 idx:Nat
 op:Op
 ty:TypeId
 env:Env
 v:Value
def lu(P:Program)(pend:List PE)(S:Pend):Prop:=∀p∈S,(∀w,p.2 w)∨∃pe∈pend,pe.idx=p.1∧∃ρ o,Agr pe.env ρ∧o.op=pe.op∧o.type=pe.ty∧∀w,(execOp ρ o).run P w=.ok (.value pe.v) w→p.2 w
def dpB(ops:Array Oper)(j i:Nat):Bool:=depB ops ops.size j i
class NoP (K:Post):Prop where
 no:∀c env L,¬K (.panic c) env L
 out:∀env L,¬K .outgrown env L
instance {n:Env→LH→Prop}{K:Post}[h:NoP K]:NoP (Post.seq n K):=⟨fun c env L=>h.no c env L,fun env L=>h.out env L⟩
instance {id:Nat}{K:Post}[h:NoP K]:NoP (Post.inBlock id K):=⟨fun c env L=>h.no c env L,fun env L=>h.out env L⟩
instance {P:Program}{N:Nat}{rs:List ResultVar}{post:Value→LH→Prop}:NoP (Ends P N rs post):=⟨(by
 rintro c env L ⟨h,_⟩;rcases h with h|h
 ·cases h
 ·cases h),(by
 rintro env L ⟨h,_⟩;rcases h with h|h
 ·cases h
 ·cases h)⟩
def GP(P:Program)(N:Nat)(ops:Array Oper)(done:List Nat)(plan:List Stp)(pend:List PE)(env:Env)(L:LH)(K:Post):Prop :=
 NoP K→jr ops done plan=true→Region.noSelect ops=true→Closed .any ops (dS ops.size done) →
 ∀θ Y a w S,At N env L θ Y a w→lu P pend S→(∀p∈S,p.2 w) →
  wpAnyP P .any ops (QK θ Y N K) (dpB ops) plan.length (dS ops.size done) S a w
def noDefer(ops:Array Oper):Bool:=ops.all fun o=>match o.op with
 | .defer _=>false
 | _=>true
theorem wc{ops:Array Oper}(h:noDefer ops=true){i:Nat}{o:Oper}(hi:ops[i]? = some o):∀c,o.op≠.defer c:=by
 intro c hc;have h1:=Array.all_eq_true.1 h i (Array.getElem?_eq_some_iff.1 hi).1;rw[(Array.getElem?_eq_some_iff.1 hi).2] at h1;simp[hc] at h1
theorem Ca{P:Program}{r:Option Nat}{ops:Array Oper}{Q:Exit→Act→World→Prop}(hd:noDefer ops=true)(hq:¬LetsOut Q){i:Nat}{K K' : Act→World→Prop}{a:Act}{w:World}(hk:∀a w,K a w→K' a w)(h:wpOp P ops Q i K a w):wpOpIn (FW r) 0 P ops Q i K' a w:=by
 have h:=wpOp_mono hk h;unfold wpOp at h;unfold wpOpIn;cases hi:ops[i]? with
 | none=>simp only[hi] at h ⊢;exact h
 | some o =>
  simp only[hi] at h ⊢;split
  ·rename_i hw;simp only[hw,if_true] at h;rcases h with h|h
   ·exact lC (wc hd hi) h
   ·exact absurd h.2 hq
  ·rename_i hw;simp only[hw] at h;exact⟨fun _ _=>trivial,h⟩
theorem nt{P:Program}{r:Option Nat}{md:Region.Mode}{ops:Array Oper}{Q:Exit→Act→World→Prop}(hd:noDefer ops=true)(hq:¬LetsOut Q):∀(fuel:Nat) (listed:Array Bool) (a:Act) (w:World),wpAny P md ops Q fuel listed a w→wpAnyIn (FW r) 0 P md ops Q fuel listed a w
 | 0,_,_,_,h=>h
 | fuel+1,_,_,_,h=>⟨h.1,fun i hi=>Ca hd hq (fun a w=>nt hd hq fuel _ a w) (h.2 i hi)⟩
def Stp.idx:Stp→Nat
 | .ev i=>i
 | .ef i=>i
def GPW(P:Program)(N:Nat)(ops:Array Oper)(done:List Nat)(s:Stp)(plan:List Stp)(dst:Option Tmp)(op:Op)(ty:TypeId)(pend:List PE)(env:Env)(L:LH)(K:Post):Prop :=
 ∀pos af g,ops[s.idx]? = some ⟨dst,op,ty,pos,af,g⟩→(∀a,EnvOk N env a→Region.wanted ⟨dst,op,ty,pos,af,g⟩ (yielded ops a.tmps)=true)→GP P N ops done (s::plan) pend env L K
def GPK(P:Program)(N:Nat)(ops:Array Oper)(done:List Nat)(i:Nat)(plan:List Stp)(todo acc:List PE)(env:Env)(L:LH)(K:Post):Prop :=
 ∃kept:List PE,(∀pe∈todo,dpB ops i pe.idx=true∨(pe∈kept∧Ev P L pe.env pe.op pe.ty pe.v))∧(∀pe∈acc,pe∈kept)∧GP P N ops (i::done) plan kept env L K
section gp
variable {P:Program}{N:Nat}{ops:Array Oper}{done:List Nat}{plan:List Stp}{pend:List PE}{env:Env}{L:LH}{K:Post}
theorem G.d7{id:Nat}{l:List Oper}(plan:List Stp)[hK:NoP K](hm:P.follows .mixedOrders=true)(hp:(jr l.toArray [] plan && (plan.length == l.toArray.size) && Region.noSelect l.toArray && noDefer l.toArray)=true)(h:GP P N l.toArray [] plan [] env L K):G P N (.region id l.toArray true) env L K:=by
 intro r θ Y a w hr i;simp only[Bool.and_eq_true,beq_iff_eq] at hp;obtain⟨⟨⟨h1,h2⟩,h3⟩,h4⟩:=hp;refine wpIn_region_any hm (nt h4 (by rintro⟨a',w',env,L,_,h⟩;exact hK.out env L h) _ _ _ _ (wpAnyP.d7 (dep:=dpB l.toArray) _ _ [] _ _ ?_));obtain⟨M,ea,hmk,s⟩:=i;have:=h hK h1 h3 (Closed.d7 _) θ Y a { w with drawn:=w.drawn+1 } [] ⟨M,ea,hmk,s.drew⟩ (by intro p hp;cases hp) (by simp)
 rw[h2] at this;exact this
theorem GP.nil(h:K .normal env L):GP P N ops done [] pend env L K:=by
 intro _ hp _ _ θ Y a w S i _ _;simp only[jr,List.isEmpty_iff] at hp;exact⟨hp,env,L,i,h⟩
theorem xa{θ:Th}{R:LH}(hK:NoP K)(c:List PanicEntry)(a:Act)(w:World):¬QK θ R N K (.panic c) a w:=fun⟨env,L,_,h⟩=>hK.no c env L h
theorem GP.d8{i d:Nat}{op:Op}{ty:TypeId}{pos:String}{af:Array Edge}{g:Option (Nat×Bool)}{v:Value}{pend' : List PE}(hi:ops[i]? = some ⟨some d,op,ty,pos,af,g⟩)(hd:d<N)
  (hy:∀θ R a w,EnvOk N env a→Sat θ (L++R) w→∃Si,YieldsIf P ops Si ⟨some d,op,ty,pos,af,g⟩ v a∧Si w∧∀S,lu P pend S→lu P pend' ((i,Si)::S))
  (h:GP P N ops (i::done) plan pend' ((d,v)::env) L K):GP P N ops done (.ev i::plan) pend env L K:=by
 intro hK hp hs hcl θ Y a w S i0 hpo hpw;simp only[jr,Bool.and_eq_true,List.contains_iff_mem] at hp;obtain⟨⟨h1,h2⟩,h3⟩:=hp;obtain⟨M,ea,hmk,s⟩:=i0;obtain⟨Si,hy1,hy2,hy3⟩:=hy θ _ a w ea s
 have hall:∀p∈(i,Si)::S,p.2 w:=fun p hp=>by
  rcases List.mem_cons.1 hp with rfl|hp
  ·exact hy2
  ·exact hpw p hp
 refine wpAnyP.first hi (Region.noSelect_spec hs) (fun c a w q=>(xa hK c _ w q).elim) (fun j hj=>rc _ j i hj) _ _ S a w hcl (Region.free_spec hi h2) h1 hy1 hy2 hpw ?_;exact h hK h3 hs (hcl.set h1) θ Y (a.put (some d) v) w _ ⟨M,ea.put hd v,by rw[defers_put];exact hmk,s⟩ (hy3 S hpo) hall
theorem GPW.evP{i d:Nat}{op:Op}{ty:TypeId}{v:Value}(he:Ev P [] env op ty v)(hd:d<N)(h:GP P N ops (i::done) plan pend ((d,v)::env) L K):GPW P N ops done (.ev i) plan (some d) op ty pend env L K:=by
 intro pos af g hi hw;refine GP.d8 hi hd (fun θ R a w ea s=>⟨fun _=>True,.inl ⟨hw a ea,?_⟩,trivial,fun S hS p hp=>?_⟩) h
 ·intro w' _;exact he ⟨w'.tape,w'.os,w'.output,0⟩ [] a.eval w' _ ea.agr ⟨⟨rfl,rfl,rfl,Nat.zero_le _⟩,Hp.emp,Hp.emp,Hp.d8 _,Hp.d7 _,Hp.d7 _,trivial⟩ rfl rfl
 ·rcases List.mem_cons.1 hp with rfl|hp
  ·exact .inl fun _=>trivial
  ·exact hS p hp
theorem GPW.evL{i d:Nat}{op:Op}{ty:TypeId}{v:Value}(he:Ev P L env op ty v)(hd:d<N)(h:GP P N ops (i::done) plan (⟨i,op,ty,env,v⟩::pend) ((d,v)::env) L K):GPW P N ops done (.ev i) plan (some d) op ty pend env L K:=by
 intro pos af g hi hw;refine GP.d8 hi hd (fun θ R a w ea s=>⟨fun w'=>(execOp a.eval ⟨some d,op,ty,pos,af,g⟩).run P w' = .ok (.value v) w',.inl ⟨hw a ea,fun w' h=>h⟩,he θ R a.eval w _ ea.agr s rfl rfl,fun S hS p hp=>?_⟩) h;rcases List.mem_cons.1 hp with rfl|hp
 ·exact .inr ⟨_,List.mem_cons_self,rfl,a.eval,_,ea.agr,rfl,rfl,fun w h=>h⟩
 ·rcases hS p hp with h|⟨pe,h1,h2⟩
  ·exact .inl h
  ·exact .inr ⟨pe,List.mem_cons_of_mem _ h1,h2⟩
theorem GP.d9{i d:Nat}{op:Op}{ty:TypeId}{pos:String}{af:Array Edge}{g:Option (Nat×Bool)}(hi:ops[i]? = some ⟨some d,op,ty,pos,af,g⟩)(hd:d<N)(hw:∀a,EnvOk N env a→Region.wanted ⟨some d,op,ty,pos,af,g⟩ (yielded ops a.tmps)=false)
  (h:GP P N ops (i::done) plan pend ((d,undef)::env) L K):GP P N ops done (.ev i::plan) pend env L K:=by
 refine GP.d8 hi hd (fun θ R a w ea s=>⟨fun _=>True,.inr ⟨hw a ea,rfl⟩,trivial,fun S hS p hp=>?_⟩) h;rcases List.mem_cons.1 hp with rfl|hp
 ·exact .inl fun _=>trivial
 ·exact hS p hp
theorem GPK.nil{i:Nat}{acc:List PE}(h:GP P N ops (i::done) plan acc env L K):GPK P N ops done i plan [] acc env L K:=⟨acc,(by intro pe h;cases h),fun _ h=>h,h⟩
theorem GPK.drop{i:Nat}{pe:PE}{ts acc:List PE}(hd:dpB ops i pe.idx=true)(h:GPK P N ops done i plan ts acc env L K):GPK P N ops done i plan (pe::ts) acc env L K:=by
 obtain⟨kept,h1,h2,h3⟩:=h;refine⟨kept,fun p hp=>?_,h2,h3⟩;rcases List.mem_cons.1 hp with rfl|hp
 ·exact .inl hd
 ·exact h1 p hp
theorem GPK.keep{i k:Nat}{op:Op}{ty:TypeId}{env' : Env}{v:Value}{ts acc:List PE}(hd:Ev P L env' op ty v)(h:GPK P N ops done i plan ts (⟨k,op,ty,env',v⟩::acc) env L K):GPK P N ops done i plan (⟨k,op,ty,env',v⟩::ts) acc env L K:=by
 obtain⟨kept,h1,h2,h3⟩:=h;refine⟨kept,fun p hp=>?_,fun p hp=>h2 p (List.mem_cons_of_mem _ hp),h3⟩;rcases List.mem_cons.1 hp with rfl|hp
 ·exact .inr ⟨h2 _ List.mem_cons_self,hd⟩
 ·exact h1 p hp
theorem GPK.step{i:Nat}(h:GPK P N ops done i plan pend [] env L K){θ:Th}{R:LH}{a:Act}{w:World}{S:Pend}(hK:NoP K)(h3:jr ops (i::done) plan=true)(hs:Region.noSelect ops=true)(hcl:Closed .any ops (dS ops.size (i::done)))(i0:At N env L θ R a w)(hpo:lu P pend S) :
  (∀p∈kp (dpB ops) i S,p.2 w)∧wpAnyP P .any ops (QK θ R N K) (dpB ops) plan.length (dS ops.size (i::done)) (kp (dpB ops) i S) a w:=by
 obtain⟨kept,k1,_,k3⟩:=h;obtain⟨M,ea,hmk,s⟩:=i0
 have hkk:∀p∈kp (dpB ops) i S,p.2 w∧((∀w,p.2 w)∨∃pe∈kept,pe.idx=p.1∧∃ρ o,Agr pe.env ρ∧o.op=pe.op∧o.type=pe.ty∧∀w,(execOp ρ o).run P w=.ok (.value pe.v) w→p.2 w):=by
  intro p hp;obtain⟨hp1,hp2⟩:=List.mem_filter.1 hp;rcases hpo p hp1 with h|⟨pe,h1,h2,ρ,o,h4,h5,h6,h7⟩
  ·exact⟨h w,.inl h⟩
  ·rcases k1 pe h1 with hd|⟨hk,hev⟩
   ·rw[h2] at hd;rw[hd] at hp2;simp at hp2
   ·exact⟨h7 w (hev θ _ ρ w o h4 s h5 h6),.inr ⟨pe,hk,h2,ρ,o,h4,h5,h6,h7⟩⟩
 exact⟨fun p hp=>(hkk p hp).1,k3 hK h3 hs hcl θ R a w _ ⟨M,ea,hmk,s⟩ (fun p hp=>(hkk p hp).2) (fun p hp=>(hkk p hp).1)⟩
theorem GPW.ef{i d:Nat}{op:Op}{ty:TypeId}{post:Value→LH→Prop}(he:Ef P L env op ty post)(hd:d<N)(h:∀v L',post v L'→GPK P N ops done i plan pend [] ((d,v)::env) L' K):GPW P N ops done (.ef i) plan (some d) op ty pend env L K:=by
 intro pos af g hi hw hK hp hs hcl θ Y a w S i0 hpo hpw;obtain⟨M,ea,hmk,s⟩:=i0;simp only[jr,Bool.and_eq_true,beq_iff_eq] at hp;obtain⟨h1,h3⟩:=hp;have hir:i∈Region.ready .any ops (dS ops.size done):=by rw[h1];exact List.mem_singleton.2 rfl
 refine⟨fun h0=>(by rw[h0] at h1;cases h1),fun j hj=>?_⟩;rw[h1] at hj;have hji:j=i:=List.mem_singleton.1 hj;subst hji;have hi' : ops[j]? = some ⟨some d,op,ty,pos,af,g⟩:=hi;unfold wpOp;simp only[hi',hw a ea,if_true];refine .inl (he θ _ a w _ _ _ ea.agr s rfl rfl fun v L' w' hpost s'=>?_);exact(h v L' hpost).step hK h3 hs (hcl.set hir) ⟨M,ea.put hd v,by rw[defers_put];exact hmk,s'⟩ hpo
theorem GPW.efu{i:Nat}{op:Op}{ty:TypeId}{post:Value→LH→Prop}(he:Ef P L env op ty post)(h:∀v L',post v L'→GPK P N ops done i plan pend [] env L' K):GPW P N ops done (.ef i) plan none op ty pend env L K:=by
 intro pos af g hi hw hK hp hs hcl θ Y a w S i0 hpo hpw;obtain⟨M,ea,hmk,s⟩:=i0;simp only[jr,Bool.and_eq_true,beq_iff_eq] at hp;obtain⟨h1,h3⟩:=hp;have hir:i∈Region.ready .any ops (dS ops.size done):=by rw[h1];exact List.mem_singleton.2 rfl
 refine⟨fun h0=>(by rw[h0] at h1;cases h1),fun j hj=>?_⟩;rw[h1] at hj;have hji:j=i:=List.mem_singleton.1 hj;subst hji;have hi' : ops[j]? = some ⟨none,op,ty,pos,af,g⟩:=hi;unfold wpOp;simp only[hi',hw a ea,if_true];refine .inl (he θ _ a w _ _ _ ea.agr s rfl rfl fun v L' w' hpost s'=>?_);exact(h v L' hpost).step hK h3 hs (hcl.set hir) ⟨M,ea,hmk,s'⟩ hpo
theorem GP.d7{i d:Nat}{op:Op}{ty:TypeId}{pos:String}{af:Array Edge}{g:Option (Nat×Bool)}(hi:ops[i]? = some ⟨some d,op,ty,pos,af,g⟩)(hd:d<N)(hw:∀a,EnvOk N env a→Region.wanted ⟨some d,op,ty,pos,af,g⟩ (yielded ops a.tmps)=false)
  (h:GP P N ops (i::done) plan pend ((d,undef)::env) L K):GP P N ops done (.ef i::plan) pend env L K:=by
 intro hK hp hs hcl θ Y a w S i0 hpo hpw;simp only[jr,Bool.and_eq_true,beq_iff_eq] at hp;obtain⟨h1,h3⟩:=hp;have ea:=i0.eok;have hir:i∈Region.ready .any ops (dS ops.size done):=by rw[h1];exact List.mem_singleton.2 rfl
 refine⟨fun h0=>(by rw[h0] at h1;cases h1),fun j hj=>?_⟩;rw[h1] at hj;have hji:j=i:=List.mem_singleton.1 hj;subst hji;unfold wpOp;simp only[hi,hw a ea,Bool.false_eq_true,if_false];exact⟨fun p hp=>hpw p (List.mem_filter.1 hp).1,h hK h3 hs (hcl.set hir) θ Y _ w _ (i0.put hd undef) (fun p hp=>hpo p (List.mem_filter.1 hp).1) (fun p hp=>hpw p (List.mem_filter.1 hp).1)⟩
theorem GP.go{s:Stp}{dst:Option Tmp}{op:Op}{ty:TypeId}{pos:String}{af:Array Edge}(hi:ops[s.idx]? = some ⟨dst,op,ty,pos,af,none⟩)(h:GPW P N ops done s plan dst op ty pend env L K):GP P N ops done (s::plan) pend env L K :=
 h pos af none hi fun _ _=>rfl
theorem ns{j t:Nat}{v:Value}(hj:(ops[j]?).bind (·.dst)=some t)(ht:env.lookup t=some v){a:Act}(ea:EnvOk N env a):yielded ops a.tmps j=match v with | .bool b=>some b|_=>none:=by
 unfold yielded;rw[hj];simp only[Option.bind_some,ea.at_ t _ ht];cases v<;>rfl
theorem GP.env_cons{t:Nat}{v:Value}(ht:env.lookup t=some v)(h:GP P N ops done plan pend ((t,v)::env) L K):GP P N ops done plan pend env L K :=
 fun hK hp hs hcl θ R a w S i hpo hpw=>h hK hp hs hcl θ R a w S (i.less (EnvSub.cons ht (EnvSub.refl _)) (Ent.refl _)) hpo hpw
theorem GP.guard{s:Stp}{d:Nat}{op:Op}{ty:TypeId}{pos:String}{af:Array Edge}{j t:Nat}{b c:Bool}(hi:ops[s.idx]? = some ⟨some d,op,ty,pos,af,some (j,b)⟩)(hj:(ops[j]?).bind (·.dst)=some t)(ht:env.lookup t=some (.bool c))(hd:d<N)
  (hy:c=b→GPW P N ops done s plan (some d) op ty pend env L K) (hn:c≠b→GP P N ops (s.idx::done) plan pend ((d,undef)::env) L K):GP P N ops done (s::plan) pend env L K:=by
 by_cases hcb:c=b
 ·subst hcb;exact hy rfl pos af _ hi fun a ea=>by simp[Region.wanted,ns hj ht ea]
 ·have hw:∀a,EnvOk N env a→Region.wanted ⟨some d,op,ty,pos,af,some (j,b)⟩ (yielded ops a.tmps)=false:=fun a ea=>by
   simp[Region.wanted,ns hj ht ea,hcb]
  cases s with
  | ev i=>exact GP.d9 hi hd hw (hn hcb)
  | ef i=>exact GP.d7 hi hd hw (hn hcb)
theorem GP.e7{s:Stp}{d:Nat}{op:Op}{ty:TypeId}{pos:String}{af:Array Edge}{j t:Nat}{b:Bool}(hi:ops[s.idx]? = some ⟨some d,op,ty,pos,af,some (j,b)⟩)(hj:(ops[j]?).bind (·.dst)=some t)(ht:env.lookup t=some undef)(hd:d<N)
  (hn:GP P N ops (s.idx::done) plan pend ((d,undef)::env) L K):GP P N ops done (s::plan) pend env L K:=by
 have hw:∀a,EnvOk N env a→Region.wanted ⟨some d,op,ty,pos,af,some (j,b)⟩ (yielded ops a.tmps)=false:=fun a ea=>by
  simp[Region.wanted,ns hj ht ea,undef]
 cases s with
 | ev i=>exact GP.d9 hi hd hw hn
 | ef i=>exact GP.d7 hi hd hw hn
theorem GP.e8{s:Stp}{d:Nat}{op:Op}{ty:TypeId}{pos:String}{af:Array Edge}{j t:Nat}{c:Bool}(hi:ops[s.idx]? = some ⟨some d,op,ty,pos,af,some (j,true)⟩)(hj:(ops[j]?).bind (·.dst)=some t)(ht:env.lookup t=some (.bool c))(hd:d<N)
  (h:GB c (GPW P N ops done s plan (some d) op ty pend env L K) (GP P N ops done (s::plan) pend ((t,.bool true)::env) L K) (GP P N ops (s.idx::done) plan pend ((d,undef)::env) L K) (GP P N ops done (s::plan) pend ((t,.bool false)::env) L K)):GP P N ops done (s::plan) pend env L K:=by
 cases c with
 | true =>
  rcases h.1 rfl with h|h
  ·exact GP.guard hi hj ht hd (fun _=>h) (fun h=>absurd rfl h)
  ·exact h.env_cons ht
 | false =>
  rcases h.2 rfl with h|h
  ·exact GP.guard hi hj ht hd (fun h=>by cases h) (fun _=>h)
  ·exact h.env_cons ht
theorem GP.e9{s:Stp}{d:Nat}{op:Op}{ty:TypeId}{pos:String}{af:Array Edge}{j t:Nat}{c:Bool}(hi:ops[s.idx]? = some ⟨some d,op,ty,pos,af,some (j,false)⟩)(hj:(ops[j]?).bind (·.dst)=some t)(ht:env.lookup t=some (.bool c))(hd:d<N)
  (h:GB c (GP P N ops (s.idx::done) plan pend ((d,undef)::env) L K) (GP P N ops done (s::plan) pend ((t,.bool true)::env) L K) (GPW P N ops done s plan (some d) op ty pend env L K) (GP P N ops done (s::plan) pend ((t,.bool false)::env) L K)):GP P N ops done (s::plan) pend env L K:=by
 cases c with
 | true =>
  rcases h.1 rfl with h|h
  ·exact GP.guard hi hj ht hd (fun h=>by cases h) (fun _=>h)
  ·exact h.env_cons ht
 | false =>
  rcases h.2 rfl with h|h
  ·exact GP.guard hi hj ht hd (fun _=>h) (fun h=>absurd rfl h)
  ·exact h.env_cons ht
theorem GP.conseq{env' : Env}(he:EnvSub env env')(h:GP P N ops done plan pend env' L K):GP P N ops done plan pend env L K :=
 fun hK hp hs hcl θ R a w S i hpo hpw=>h hK hp hs hcl θ R a w S (i.less he (Ent.refl _)) hpo hpw
