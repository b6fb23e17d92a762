/- Lemmas. -/
import Derived.Test.YtlgpgjdggilkgaaGreatDoorEcab
import Derived.OrdersHeld
set_option linter.all false
namespace Go.V
section
section any
variable {P:Program}{ops:Array Oper}{Q:Exit→Act→World→Prop}{md:Region.Mode}
inductive Dep (md:Region.Mode) (ops:Array Oper):Nat→Nat→Prop where
 | one {j i:Nat} {o:Oper} {e:Edge}:ops[j]? = some o→e∈o.after→Region.binds md e=true→e.on=i→Dep md ops j i
 | more {j i:Nat} {o:Oper} {e:Edge}:ops[j]? = some o→e∈o.after→Region.binds md e=true→Dep md ops e.on i→Dep md ops j i
def Closed(md:Region.Mode)(a1:Array Oper)(a0:Array Bool):Prop:=∀j o,a1[j]? = some o→a0.getD j false=true→∀e∈o.after,Region.binds md e=true→a0.getD e.on false=true
def Closed.dep{a0:Array Bool}(h:Closed md ops a0){j i:Nat}(hd:Dep md ops j i)(hj:∀o,ops[j]? = some o→∀e∈o.after,Region.binds md e=true→a0.getD e.on false=true):a0.getD i false=true:=by
 induction hd with
 | one h1 h2 h3 h4=>subst h4;exact hj _ h1 _ h2 h3
 | more h1 h2 h3 _ ih=>exact ih fun o ho e he hb=>h _ o ho (hj _ h1 _ h2 h3) e he hb
def Closed.set{a0:Array Bool}(h:Closed md ops a0){i:Nat}(hi:i∈Region.ready md ops a0):Closed md ops (a0.setIfInBounds i true):=by
 intro j o ho hj e he hb;obtain⟨_,oi,a3,a1⟩:=mem_ready.1 hi;by_cases a2:i=j
 ·subst a2;rw[a3] at ho;cases ho;exact getD_set_true (a1 e he hb)
 ·rw[getD_set_ne false a2] at hj;exact getD_set_true (h j o ho hj e he hb)
def Closed.a8(n:Nat):Closed md ops (Array.replicate n false):=by
 intro j o _ hj;simp[Array.getElem?_replicate] at hj;split at hj<;>simp at hj
abbrev Pend:=List (Nat×(World→Prop))
def kp(dep:Nat→Nat→Bool)(j:Nat)(S:Pend):Pend:=S.filter fun p=>!dep j p.1
def wpAnyP(P:Program)(md:Region.Mode)(a0:Array Oper)(Q:Exit→Act→World→Prop)(dep:Nat→Nat→Bool):Nat→Array Bool→Pend→Act→World→Prop
 | 0,listed,_,a,w=>Region.ready md a0 listed=[]∧Q .normal a w
 | fuel+1,listed,S,a,w =>
  (Region.ready md a0 listed=[]→Q .normal a w) ∧
  ∀j∈Region.ready md a0 listed,wpOp P a0 Q j (fun a' w'=>(∀p∈kp dep j S,p.2 w')∧wpAnyP P md a0 Q dep fuel (listed.setIfInBounds j true) (kp dep j S) a' w') a w
variable {dep:Nat→Nat→Bool}
def wpAnyP.a8:∀(fuel:Nat) (a0:Array Bool) (S:Pend) (a:Act) (w:World),wpAnyP P md ops Q dep fuel a0 S a w→wpAny P md ops Q fuel a0 a w
 | 0,_,_,_,_,h=>h
 | fuel+1,_,_,_,_,h=>⟨h.1,fun j hj=>wpOp_mono (fun a' w' h'=>wpAnyP.a8 fuel _ _ a' w' h'.2) (h.2 j hj)⟩
def wpAnyP.less:∀(fuel:Nat) (a0:Array Bool) (S S' : Pend) (a:Act) (w:World),(∀p∈S',p∈S)→wpAnyP P md ops Q dep fuel a0 S a w→wpAnyP P md ops Q dep fuel a0 S' a w
 | 0,_,_,_,_,_,_,h=>h
 | fuel+1,_,S,S',_,_,hs,h=>⟨h.1,fun j hj=>wpOp_mono (fun a' w' h' =>
   have hk:∀p∈kp dep j S',p∈kp dep j S:=fun p hp=>by
    unfold kp at *;rw[List.mem_filter] at *;exact⟨hs p hp.1,hp.2⟩
   ⟨fun p hp=>h'.1 p (hk p hp),wpAnyP.less fuel _ _ _ a' w' hk h'.2⟩) (h.2 j hj)⟩
def wpAnyP.first{i:Nat}{oi:Oper}{v:Value}{Si:World→Prop}(hi:ops[i]? = some oi)(a7:∀(j:Nat) (o:Oper) cs b,ops[j]? = some o→o.op≠.select cs b)
  (hQ:∀c a w,Q (.panic c) (a.put oi.dst v) w→Q (.panic c) a w) (b0:∀j,dep j i=true→Dep md ops j i) :
  ∀(fuel:Nat) (a0:Array Bool) (S:Pend) (a:Act) (w:World),
   Closed md ops a0 →
   (∀j oj,ops[j]? = some oj→j≠i→a0.getD j true=false→(∀e∈oj.after,Region.binds md e=true→e.on≠i)→oi.apart ops oj=true) →
   i∈Region.ready md ops a0→YieldsIf P ops Si oi v a→Si w→(∀p∈S,p.2 w) →
   wpAnyP P md ops Q dep fuel (a0.setIfInBounds i true) ((i,Si)::S) (a.put oi.dst v) w→wpAnyP P md ops Q dep (fuel+1) a0 S a w:=by
 intro fuel;induction fuel with
 | zero =>
  intro a0 S a w _ _ hr hy hS hP H;refine⟨fun h=>(by rw[h] at hr;cases hr),fun j hj=>?_⟩;by_cases a2:j=i
  ·subst a2;exact hy.wpOp hi hS ⟨fun p hp=>hP p ((List.mem_filter.1 hp).1),H⟩
  ·have:=ready_mono hj a2
   rw[H.1] at this;cases this
 | succ fuel ih =>
  intro a0 S a w b2 a1 hr hy hS hP H;refine⟨fun h=>(by rw[h] at hr;cases hr),fun j hj=>?_⟩;by_cases a2:j=i
  ·subst a2;exact hy.wpOp hi hS ⟨fun p hp=>hP p ((List.mem_filter.1 hp).1),wpAnyP.less _ _ _ _ _ _ (fun p hp=>List.mem_cons_of_mem _ ((List.mem_filter.1 hp).1)) H⟩
  ·have h1:=H.2 j (ready_mono hj a2);obtain⟨a6,oj,a9,a4⟩:=mem_ready.1 hj
   have a5:a0.getD i false=true→False:=fun h1=>by
    have h0:=(mem_ready.1 hr).1;rcases Nat.lt_or_ge i a0.size with h' | h'
    ·simp[h'] at h0 h1;rw[h0] at h1;cases h1
    ·simp[Array.getElem?_eq_none h'] at h1
   have b1:∀e∈oj.after,Region.binds md e=true→e.on≠i:=fun e he hb b5=>a5 (b5▸a4 e he hb)
   have b8:dep j i=false:=by
    cases hd:dep j i with
    | false=>rfl
    | true=>exact(a5 (b2.dep (b0 j hd) fun o ho e he hb=>by rw[a9] at ho;cases ho;exact a4 e he hb)).elim
   have h2:=wpOp_putIf a9 (a1 j oj a9 a2 a6 b1) (fun cs b=>a7 i oi cs b hi) (fun cs b=>a7 j oj cs b a9) hQ hy h1
   have a3 : ∀k ok,ops[k]? = some ok→k≠i→(a0.setIfInBounds j true).getD k true=false →
     (∀e∈ok.after,Region.binds md e=true→e.on≠i)→oi.apart ops ok=true:=fun k ok hk b6 b4 b9=>by
    refine a1 k ok hk b6 ?_ b9;by_cases b3:j=k
    ·subst b3;exact a6
    ·rw[getD_set_ne true b3] at b4;exact b4
   have b7:kp dep j ((i,Si)::S)=(i,Si)::kp dep j S:=by simp[kp,b8]
   rw[b7] at h2;refine wpOp_mono (fun a' w' h3=>⟨fun p hp=>h3.2.1 p (List.mem_cons_of_mem _ hp),ih (a0.setIfInBounds j true) _ a' w' (b2.set hj) a3 (ready_mono hr (Ne.symm a2)) h3.1 (h3.2.1 _ List.mem_cons_self) (fun p hp=>h3.2.1 p (List.mem_cons_of_mem _ hp)) ?_⟩) h2;rw[Array.setIfInBounds_comm _ _ a2];exact h3.2.2
end any
def dZ(n:Nat):List Nat→Array Bool
 | []=>Array.replicate n false
 | i::r=>(dZ n r).setIfInBounds i true
def depB(a0:Array Oper):Nat→Nat→Nat→Bool
 | 0,_,_=>false
 | fuel+1,j,i=>match a0[j]? with
  | none=>false
  | some o=>o.after.toList.any fun e=>Region.binds .any e && (e.on == i || depB a0 fuel e.on i)
def sC{a0:Array Oper}:∀(fuel j i:Nat),depB a0 fuel j i=true→Dep .any a0 j i
 | 0,_,_,h=>by simp[depB] at h
 | fuel+1,j,i,h=>by
  unfold depB at h;cases ho:a0[j]? with
  | none=>rw[ho] at h;simp at h
  | some o =>
   rw[ho] at h;simp only[List.any_eq_true] at h;obtain⟨e,he,h⟩:=h;have a1 : e∈o.after:=by simpa using he
   simp only[Bool.and_eq_true,Bool.or_eq_true,beq_iff_eq] at h;rcases h with⟨hb,h|h⟩
   ·exact .one ho a1 hb h
   ·exact .more ho a1 hb (sC fuel _ i h)
inductive Stp where
 | ev (i:Nat)
 | ef (i:Nat)
abbrev XA(l:List Stp):List Stp:=.ev 0::.ev 1::.ev 2::.ev 3::l
abbrev XB(l:List Stp):List Stp:=.ev 0::.ev 1::.ev 2::.ev 3::.ev 4::.ev 5::l
abbrev XC(l:List Stp):List Stp:=.ev 0::.ev 1::.ev 2::.ev 3::.ev 4::.ev 5::.ev 6::.ev 7::l
abbrev XD(l:List Stp):List Stp:=.ev 0::.ev 1::.ev 2::.ev 3::.ev 4::.ev 5::.ev 6::.ev 7::.ev 8::.ev 9::l
abbrev XE(l:List Stp):List Stp:=.ev 0::.ev 1::.ev 2::.ev 3::.ev 4::.ev 5::.ev 6::.ev 7::.ev 8::.ev 9::.ev 10::.ev 11::.ev 12::l
abbrev XF(l:List Stp):List Stp:=.ev 0::.ev 1::.ev 2::.ev 3::.ev 4::.ev 5::.ev 6::.ev 7::.ev 8::.ev 9::.ev 10::.ev 11::.ev 12::.ev 13::.ev 14::.ev 15::.ev 16::l
def jq(a0:Array Oper)(done:List Nat):List Stp→Bool
 | []=>(Region.ready .any a0 (dZ a0.size done)).isEmpty
 | .ev i::r=>(Region.ready .any a0 (dZ a0.size done)).contains i && Region.free .any a0 (dZ a0.size done) i && jq a0 (i::done) r
 | .ef i::r=>(Region.ready .any a0 (dZ a0.size done) == [i]) && jq a0 (i::done) r
structure PE where
 idx:Nat
 op:Op
 ty:TypeId
 env:Env
 v:Value
def lX(P:Program)(a0:List PE)(S:Pend):Prop:=∀p∈S,(∀w,p.2 w)∨∃pe∈a0,pe.idx=p.1∧∃ρ o,Agr pe.env ρ∧o.op=pe.op∧o.type=pe.ty∧∀w,(execOp ρ o).run P w=.ok (.value pe.v) w→p.2 w
def dpB(a0:Array Oper)(j i:Nat):Bool:=depB a0 a0.size j i
class NoP (K:Post):Prop where
 no:∀c env L,¬K (.panic c) env L
 out:∀env L,¬K .outgrown env L
instance {n:Env→LH→Prop}{K:Post}[h:NoP K]:NoP (Post.seq n K):=⟨fun c env L=>h.no c env L,fun env L=>h.out env L⟩
instance {id:Nat}{K:Post}[h:NoP K]:NoP (Post.inBlock id K):=⟨fun c env L=>h.no c env L,fun env L=>h.out env L⟩
instance {P:Program}{N:Nat}{rs:List ResultVar}{post:Value→LH→Prop}:NoP (Ends P N rs post):=⟨(by
 rintro c env L ⟨h,_⟩;rcases h with h|h
 ·cases h
 ·cases h),(by
 rintro env L ⟨h,_⟩;rcases h with h|h
 ·cases h
 ·cases h)⟩
def GP(P:Program)(N:Nat)(a0:Array Oper)(done:List Nat)(plan:List Stp)(a1:List PE)(env:Env)(L:LH)(K:Post):Prop :=
 NoP K→jq a0 done plan=true→Region.noSelect a0=true→Closed .any a0 (dZ a0.size done) →
 ∀θ Y a w S,At N env L θ Y a w→lX P a1 S→(∀p∈S,p.2 w) →
  wpAnyP P .any a0 (QK θ Y N K) (dpB a0) plan.length (dZ a0.size done) S a w
def noDefer(a0:Array Oper):Bool:=a0.all fun o=>match o.op with
 | .defer _=>false
 | _=>true
def xM{a0:Array Oper}(h:noDefer a0=true){i:Nat}{o:Oper}(hi:a0[i]? = some o):∀c,o.op≠.defer c:=by
 intro c hc;have h1:=Array.all_eq_true.1 h i (Array.getElem?_eq_some_iff.1 hi).1;rw[(Array.getElem?_eq_some_iff.1 hi).2] at h1;simp[hc] at h1
def Eo{P:Program}{r:Option Nat}{a0:Array Oper}{Q:Exit→Act→World→Prop}(hd:noDefer a0=true)(hq:¬LetsOut Q){i:Nat}{K K' : Act→World→Prop}{a:Act}{w:World}(hk:∀a w,K a w→K' a w)(h:wpOp P a0 Q i K a w):wpOpIn (FW r) 0 P a0 Q i K' a w:=by
 have h:=wpOp_mono hk h;unfold wpOp at h;unfold wpOpIn;cases hi:a0[i]? with
 | none=>simp only[hi] at h ⊢;exact h
 | some o =>
  simp only[hi] at h ⊢;split
  ·rename_i hw;simp only[hw,if_true] at h;rcases h with h|h
   ·exact mf (xM hd hi) h
   ·exact absurd h.2 hq
  ·rename_i hw;simp only[hw] at h;exact⟨fun _ _=>trivial,h⟩
def ou{P:Program}{r:Option Nat}{md:Region.Mode}{a1:Array Oper}{Q:Exit→Act→World→Prop}(hd:noDefer a1=true)(hq:¬LetsOut Q):∀(fuel:Nat) (a0:Array Bool) (a:Act) (w:World),wpAny P md a1 Q fuel a0 a w→wpAnyIn (FW r) 0 P md a1 Q fuel a0 a w
 | 0,_,_,_,h=>h
 | fuel+1,_,_,_,h=>⟨h.1,fun i hi=>Eo hd hq (fun a w=>ou hd hq fuel _ a w) (h.2 i hi)⟩
def Stp.idx:Stp→Nat
 | .ev i=>i
 | .ef i=>i
def GPW(P:Program)(N:Nat)(a0:Array Oper)(done:List Nat)(s:Stp)(plan:List Stp)(a2:Option Tmp)(op:Op)(ty:TypeId)(a1:List PE)(env:Env)(L:LH)(K:Post):Prop :=
 ∀pos af g,a0[s.idx]? = some ⟨a2,op,ty,pos,af,g⟩→(∀a,EnvOk N env a→Region.wanted ⟨a2,op,ty,pos,af,g⟩ (yielded a0 a.tmps)=true)→GP P N a0 done (s::plan) a1 env L K
def GPK(P:Program)(N:Nat)(a2:Array Oper)(done:List Nat)(i:Nat)(plan:List Stp)(a1 acc:List PE)(env:Env)(L:LH)(K:Post):Prop :=
 ∃a0:List PE,(∀pe∈a1,dpB a2 i pe.idx=true∨(pe∈a0∧Ev P L pe.env pe.op pe.ty pe.v))∧(∀pe∈acc,pe∈a0)∧GP P N a2 (i::done) plan a0 env L K
section gp
variable {P:Program}{N:Nat}{ops:Array Oper}{done:List Nat}{plan:List Stp}{pend:List PE}{env:Env}{L:LH}{K:Post}
def G.j0{id:Nat}{l:List Oper}(plan:List Stp)[hK:NoP K](hm:P.follows .mixedOrders=true)(hp:(jq l.toArray [] plan && (plan.length == l.toArray.size) && Region.noSelect l.toArray && noDefer l.toArray)=true)(h:GP P N l.toArray [] plan [] env L K):G P N (.region id l.toArray true) env L K:=by
 intro r θ Y a w hr i;simp only[Bool.and_eq_true,beq_iff_eq] at hp;obtain⟨⟨⟨h1,h2⟩,h3⟩,h4⟩:=hp;refine wpIn_region_any hm (ou h4 (by rintro⟨a',w',env,L,_,h⟩;exact hK.out env L h) _ _ _ _ (wpAnyP.a8 (dep:=dpB l.toArray) _ _ [] _ _ ?_));obtain⟨M,ea,a0,s⟩:=i;have:=h hK h1 h3 (Closed.a8 _) θ Y a { w with drawn:=w.drawn+1 } [] ⟨M,ea,a0,s.drew⟩ (by intro p hp;cases hp) (by simp)
 rw[h2] at this;exact this
def GP.nil(h:K .normal env L):GP P N ops done [] pend env L K:=by
 intro _ hp _ _ θ Y a w S i _ _;simp only[jq,List.isEmpty_iff] at hp;exact⟨hp,env,L,i,h⟩
def zg{θ:Th}{R:LH}(hK:NoP K)(c:List PanicEntry)(a:Act)(w:World):¬QK θ R N K (.panic c) a w:=fun⟨env,L,_,h⟩=>hK.no c env L h
def GP.c7{i d:Nat}{op:Op}{ty:TypeId}{pos:String}{af:Array Edge}{g:Option (Nat×Bool)}{v:Value}{a0 : List PE}(hi:ops[i]? = some ⟨some d,op,ty,pos,af,g⟩)(hd:d<N)
  (hy:∀θ R a w,EnvOk N env a→Sat θ (L++R) w→∃Si,YieldsIf P ops Si ⟨some d,op,ty,pos,af,g⟩ v a∧Si w∧∀S,lX P pend S→lX P a0 ((i,Si)::S))
  (h:GP P N ops (i::done) plan a0 ((d,v)::env) L K):GP P N ops done (.ev i::plan) pend env L K:=by
 intro hK hp hs a2 θ Y a w S i0 a6 a3;simp only[jq,Bool.and_eq_true,List.contains_iff_mem] at hp;obtain⟨⟨h1,h2⟩,h3⟩:=hp;obtain⟨M,ea,a5,s⟩:=i0;obtain⟨Si,a7,a4,a9⟩:=hy θ _ a w ea s
 have a1:∀p∈(i,Si)::S,p.2 w:=fun p hp=>by
  rcases List.mem_cons.1 hp with rfl|hp
  ·exact a4
  ·exact a3 p hp
 refine wpAnyP.first hi (Region.noSelect_spec hs) (fun c a w q=>(zg hK c _ w q).elim) (fun j hj=>sC _ j i hj) _ _ S a w a2 (Region.free_spec hi h2) h1 a7 a4 a3 ?_;exact h hK h3 hs (a2.set h1) θ Y (a.put (some d) v) w _ ⟨M,ea.put hd v,by rw[defers_put];exact a5,s⟩ (a9 S a6) a1
def GPW.evP{i d:Nat}{op:Op}{ty:TypeId}{v:Value}(he:Ev P [] env op ty v)(hd:d<N)(h:GP P N ops (i::done) plan pend ((d,v)::env) L K):GPW P N ops done (.ev i) plan (some d) op ty pend env L K:=by
 intro pos af g hi hw;refine GP.c7 hi hd (fun θ R a w ea s=>⟨fun _=>True,.inl ⟨hw a ea,?_⟩,trivial,fun S hS p hp=>?_⟩) h
 ·intro w' _;exact he ⟨w'.tape,w'.os,w'.output,0⟩ [] a.eval w' _ ea.agr ⟨⟨rfl,rfl,rfl,Nat.zero_le _⟩,Hp.emp,Hp.emp,Hp.c7 _,Hp.a8 _,Hp.a8 _,trivial⟩ rfl rfl
 ·rcases List.mem_cons.1 hp with rfl|hp
  ·exact .inl fun _=>trivial
  ·exact hS p hp
def GPW.evL{i d:Nat}{op:Op}{ty:TypeId}{v:Value}(he:Ev P L env op ty v)(hd:d<N)(h:GP P N ops (i::done) plan (⟨i,op,ty,env,v⟩::pend) ((d,v)::env) L K):GPW P N ops done (.ev i) plan (some d) op ty pend env L K:=by
 intro pos af g hi hw;refine GP.c7 hi hd (fun θ R a w ea s=>⟨fun w'=>(execOp a.eval ⟨some d,op,ty,pos,af,g⟩).run P w' = .ok (.value v) w',.inl ⟨hw a ea,fun w' h=>h⟩,he θ R a.eval w _ ea.agr s rfl rfl,fun S hS p hp=>?_⟩) h;rcases List.mem_cons.1 hp with rfl|hp
 ·exact .inr ⟨_,List.mem_cons_self,rfl,a.eval,_,ea.agr,rfl,rfl,fun w h=>h⟩
 ·rcases hS p hp with h|⟨pe,h1,h2⟩
  ·exact .inl h
  ·exact .inr ⟨pe,List.mem_cons_of_mem _ h1,h2⟩
def GP.c8{i d:Nat}{op:Op}{ty:TypeId}{pos:String}{af:Array Edge}{g:Option (Nat×Bool)}(hi:ops[i]? = some ⟨some d,op,ty,pos,af,g⟩)(hd:d<N)(hw:∀a,EnvOk N env a→Region.wanted ⟨some d,op,ty,pos,af,g⟩ (yielded ops a.tmps)=false)
  (h:GP P N ops (i::done) plan pend ((d,undef)::env) L K):GP P N ops done (.ev i::plan) pend env L K:=by
 refine GP.c7 hi hd (fun θ R a w ea s=>⟨fun _=>True,.inr ⟨hw a ea,rfl⟩,trivial,fun S hS p hp=>?_⟩) h;rcases List.mem_cons.1 hp with rfl|hp
 ·exact .inl fun _=>trivial
 ·exact hS p hp
def GPK.nil{i:Nat}{acc:List PE}(h:GP P N ops (i::done) plan acc env L K):GPK P N ops done i plan [] acc env L K:=⟨acc,(by intro pe h;cases h),fun _ h=>h,h⟩
def GPK.drop{i:Nat}{pe:PE}{ts acc:List PE}(hd:dpB ops i pe.idx=true)(h:GPK P N ops done i plan ts acc env L K):GPK P N ops done i plan (pe::ts) acc env L K:=by
 obtain⟨a0,h1,h2,h3⟩:=h;refine⟨a0,fun p hp=>?_,h2,h3⟩;rcases List.mem_cons.1 hp with rfl|hp
 ·exact .inl hd
 ·exact h1 p hp
def GPK.keep{i k:Nat}{op:Op}{ty:TypeId}{a0 : Env}{v:Value}{ts acc:List PE}(hd:Ev P L a0 op ty v)(h:GPK P N ops done i plan ts (⟨k,op,ty,a0,v⟩::acc) env L K):GPK P N ops done i plan (⟨k,op,ty,a0,v⟩::ts) acc env L K:=by
 obtain⟨a1,h1,h2,h3⟩:=h;refine⟨a1,fun p hp=>?_,fun p hp=>h2 p (List.mem_cons_of_mem _ hp),h3⟩;rcases List.mem_cons.1 hp with rfl|hp
 ·exact .inr ⟨h2 _ List.mem_cons_self,hd⟩
 ·exact h1 p hp
def GPK.step{i:Nat}(h:GPK P N ops done i plan pend [] env L K){θ:Th}{R:LH}{a:Act}{w:World}{S:Pend}(hK:NoP K)(h3:jq ops (i::done) plan=true)(hs:Region.noSelect ops=true)(a3:Closed .any ops (dZ ops.size (i::done)))(i0:At N env L θ R a w)(a7:lX P pend S) :
  (∀p∈kp (dpB ops) i S,p.2 w)∧wpAnyP P .any ops (QK θ R N K) (dpB ops) plan.length (dZ ops.size (i::done)) (kp (dpB ops) i S) a w:=by
 obtain⟨a1,k1,_,k3⟩:=h;obtain⟨M,ea,a5,s⟩:=i0
 have a0:∀p∈kp (dpB ops) i S,p.2 w∧((∀w,p.2 w)∨∃pe∈a1,pe.idx=p.1∧∃ρ o,Agr pe.env ρ∧o.op=pe.op∧o.type=pe.ty∧∀w,(execOp ρ o).run P w=.ok (.value pe.v) w→p.2 w):=by
  intro p hp;obtain⟨a6,a2⟩:=List.mem_filter.1 hp;rcases a7 p a6 with h|⟨pe,h1,h2,ρ,o,h4,h5,h6,h7⟩
  ·exact⟨h w,.inl h⟩
  ·rcases k1 pe h1 with hd|⟨hk,a4⟩
   ·rw[h2] at hd;rw[hd] at a2;simp at a2
   ·exact⟨h7 w (a4 θ _ ρ w o h4 s h5 h6),.inr ⟨pe,hk,h2,ρ,o,h4,h5,h6,h7⟩⟩
 exact⟨fun p hp=>(a0 p hp).1,k3 hK h3 hs a3 θ R a w _ ⟨M,ea,a5,s⟩ (fun p hp=>(a0 p hp).2) (fun p hp=>(a0 p hp).1)⟩
def GPW.ef{i d:Nat}{op:Op}{ty:TypeId}{post:Value→LH→Prop}(he:Ef P L env op ty post)(hd:d<N)(h:∀v L',post v L'→GPK P N ops done i plan pend [] ((d,v)::env) L' K):GPW P N ops done (.ef i) plan (some d) op ty pend env L K:=by
 intro pos af g hi hw hK hp hs a1 θ Y a w S i0 a6 a7;obtain⟨M,ea,a5,s⟩:=i0;simp only[jq,Bool.and_eq_true,beq_iff_eq] at hp;obtain⟨h1,h3⟩:=hp;have a3:i∈Region.ready .any ops (dZ ops.size done):=by rw[h1];exact List.mem_singleton.2 rfl
 refine⟨fun h0=>(by rw[h0] at h1;cases h1),fun j hj=>?_⟩;rw[h1] at hj;have a4:j=i:=List.mem_singleton.1 hj;subst a4;have a2 : ops[j]? = some ⟨some d,op,ty,pos,af,g⟩:=hi;unfold wpOp;simp only[a2,hw a ea,if_true];refine .inl (he θ _ a w _ _ _ ea.agr s rfl rfl fun v L' w' a0 s'=>?_);exact(h v L' a0).step hK h3 hs (a1.set a3) ⟨M,ea.put hd v,by rw[defers_put];exact a5,s'⟩ a6
def GPW.efu{i:Nat}{op:Op}{ty:TypeId}{post:Value→LH→Prop}(he:Ef P L env op ty post)(h:∀v L',post v L'→GPK P N ops done i plan pend [] env L' K):GPW P N ops done (.ef i) plan none op ty pend env L K:=by
 intro pos af g hi hw hK hp hs a1 θ Y a w S i0 a6 a7;obtain⟨M,ea,a5,s⟩:=i0;simp only[jq,Bool.and_eq_true,beq_iff_eq] at hp;obtain⟨h1,h3⟩:=hp;have a3:i∈Region.ready .any ops (dZ ops.size done):=by rw[h1];exact List.mem_singleton.2 rfl
 refine⟨fun h0=>(by rw[h0] at h1;cases h1),fun j hj=>?_⟩;rw[h1] at hj;have a4:j=i:=List.mem_singleton.1 hj;subst a4;have a2 : ops[j]? = some ⟨none,op,ty,pos,af,g⟩:=hi;unfold wpOp;simp only[a2,hw a ea,if_true];refine .inl (he θ _ a w _ _ _ ea.agr s rfl rfl fun v L' w' a0 s'=>?_);exact(h v L' a0).step hK h3 hs (a1.set a3) ⟨M,ea,a5,s'⟩ a6
def GP.a8{i d:Nat}{op:Op}{ty:TypeId}{pos:String}{af:Array Edge}{g:Option (Nat×Bool)}(hi:ops[i]? = some ⟨some d,op,ty,pos,af,g⟩)(hd:d<N)(hw:∀a,EnvOk N env a→Region.wanted ⟨some d,op,ty,pos,af,g⟩ (yielded ops a.tmps)=false)
  (h:GP P N ops (i::done) plan pend ((d,undef)::env) L K):GP P N ops done (.ef i::plan) pend env L K:=by
 intro hK hp hs a1 θ Y a w S i0 a4 a0;simp only[jq,Bool.and_eq_true,beq_iff_eq] at hp;obtain⟨h1,h3⟩:=hp;have ea:=i0.eok;have a2:i∈Region.ready .any ops (dZ ops.size done):=by rw[h1];exact List.mem_singleton.2 rfl
 refine⟨fun h0=>(by rw[h0] at h1;cases h1),fun j hj=>?_⟩;rw[h1] at hj;have a3:j=i:=List.mem_singleton.1 hj;subst a3;unfold wpOp;simp only[hi,hw a ea,Bool.false_eq_true,if_false];exact⟨fun p hp=>a0 p (List.mem_filter.1 hp).1,h hK h3 hs (a1.set a2) θ Y _ w _ (i0.put hd undef) (fun p hp=>a4 p (List.mem_filter.1 hp).1) (fun p hp=>a0 p (List.mem_filter.1 hp).1)⟩
def GP.go{s:Stp}{a0:Option Tmp}{op:Op}{ty:TypeId}{pos:String}{af:Array Edge}(hi:ops[s.idx]? = some ⟨a0,op,ty,pos,af,none⟩)(h:GPW P N ops done s plan a0 op ty pend env L K):GP P N ops done (s::plan) pend env L K :=
 h pos af none hi fun _ _=>rfl
def ot{j t:Nat}{v:Value}(hj:(ops[j]?).bind (·.dst)=some t)(ht:env.lookup t=some v){a:Act}(ea:EnvOk N env a):yielded ops a.tmps j=match v with | .bool b=>some b|_=>none:=by
 unfold yielded;rw[hj];simp only[Option.bind_some,ea.at_ t _ ht];cases v<;>rfl
def GP.env_cons{t:Nat}{v:Value}(ht:env.lookup t=some v)(h:GP P N ops done plan pend ((t,v)::env) L K):GP P N ops done plan pend env L K :=
 fun hK hp hs a0 θ R a w S i a1 a2=>h hK hp hs a0 θ R a w S (i.less (EnvSub.cons ht (EnvSub.refl _)) (Ent.refl _)) a1 a2
def GP.guard{s:Stp}{d:Nat}{op:Op}{ty:TypeId}{pos:String}{af:Array Edge}{j t:Nat}{b c:Bool}(hi:ops[s.idx]? = some ⟨some d,op,ty,pos,af,some (j,b)⟩)(hj:(ops[j]?).bind (·.dst)=some t)(ht:env.lookup t=some (.bool c))(hd:d<N)
  (hy:c=b→GPW P N ops done s plan (some d) op ty pend env L K) (hn:c≠b→GP P N ops (s.idx::done) plan pend ((d,undef)::env) L K):GP P N ops done (s::plan) pend env L K:=by
 by_cases a0:c=b
 ·subst a0;exact hy rfl pos af _ hi fun a ea=>by simp[Region.wanted,ot hj ht ea]
 ·have hw:∀a,EnvOk N env a→Region.wanted ⟨some d,op,ty,pos,af,some (j,b)⟩ (yielded ops a.tmps)=false:=fun a ea=>by
   simp[Region.wanted,ot hj ht ea,a0]
  cases s with
  | ev i=>exact GP.c8 hi hd hw (hn a0)
  | ef i=>exact GP.a8 hi hd hw (hn a0)
def GP.c9{s:Stp}{d:Nat}{op:Op}{ty:TypeId}{pos:String}{af:Array Edge}{j t:Nat}{b:Bool}(hi:ops[s.idx]? = some ⟨some d,op,ty,pos,af,some (j,b)⟩)(hj:(ops[j]?).bind (·.dst)=some t)(ht:env.lookup t=some undef)(hd:d<N)
  (hn:GP P N ops (s.idx::done) plan pend ((d,undef)::env) L K):GP P N ops done (s::plan) pend env L K:=by
 have hw:∀a,EnvOk N env a→Region.wanted ⟨some d,op,ty,pos,af,some (j,b)⟩ (yielded ops a.tmps)=false:=fun a ea=>by
  simp[Region.wanted,ot hj ht ea,undef]
 cases s with
 | ev i=>exact GP.c8 hi hd hw hn
 | ef i=>exact GP.a8 hi hd hw hn
def GP.d7{s:Stp}{d:Nat}{op:Op}{ty:TypeId}{pos:String}{af:Array Edge}{j t:Nat}{c:Bool}(hi:ops[s.idx]? = some ⟨some d,op,ty,pos,af,some (j,true)⟩)(hj:(ops[j]?).bind (·.dst)=some t)(ht:env.lookup t=some (.bool c))(hd:d<N)
  (h:GB c (GPW P N ops done s plan (some d) op ty pend env L K) (GP P N ops done (s::plan) pend ((t,.bool true)::env) L K) (GP P N ops (s.idx::done) plan pend ((d,undef)::env) L K) (GP P N ops done (s::plan) pend ((t,.bool false)::env) L K)):GP P N ops done (s::plan) pend env L K:=by
 cases c with
 | true =>
  rcases h.1 rfl with h|h
  ·exact GP.guard hi hj ht hd (fun _=>h) (fun h=>absurd rfl h)
  ·exact h.env_cons ht
 | false =>
  rcases h.2 rfl with h|h
  ·exact GP.guard hi hj ht hd (fun h=>by cases h) (fun _=>h)
  ·exact h.env_cons ht
def GP.d8{s:Stp}{d:Nat}{op:Op}{ty:TypeId}{pos:String}{af:Array Edge}{j t:Nat}{c:Bool}(hi:ops[s.idx]? = some ⟨some d,op,ty,pos,af,some (j,false)⟩)(hj:(ops[j]?).bind (·.dst)=some t)(ht:env.lookup t=some (.bool c))(hd:d<N)
  (h:GB c (GP P N ops (s.idx::done) plan pend ((d,undef)::env) L K) (GP P N ops done (s::plan) pend ((t,.bool true)::env) L K) (GPW P N ops done s plan (some d) op ty pend env L K) (GP P N ops done (s::plan) pend ((t,.bool false)::env) L K)):GP P N ops done (s::plan) pend env L K:=by
 cases c with
 | true =>
  rcases h.1 rfl with h|h
  ·exact GP.guard hi hj ht hd (fun h=>by cases h) (fun _=>h)
  ·exact h.env_cons ht
 | false =>
  rcases h.2 rfl with h|h
  ·exact GP.guard hi hj ht hd (fun _=>h) (fun h=>absurd rfl h)
  ·exact h.env_cons ht
def GP.conseq{a0 : Env}(he:EnvSub env a0)(h:GP P N ops done plan pend a0 L K):GP P N ops done plan pend env L K :=
 fun hK hp hs a1 θ R a w S i a2 a3=>h hK hp hs a1 θ R a w S (i.less he (Ent.refl _)) a2 a3
end gp
end
section
section ops
variable {P:Program}{N:Nat}{env:Env}{L:LH}{K:Post}{ty:TypeId}
def qH(pl:List (Nat×Nat)):List (Nat×Value)→LV→Option (LV)
 | [],z=>some z
 | (i,v)::r,z=>match pl[i]?,v.oneCell' with
  | some (off,1),true=>pq z off v fun z'=>qH pl r z'
  | _,_=>none
def tR(pl:List (Nat×Nat)):∀(vs:List (Nat×Value)) (z cs:LV),qH pl vs z=some cs→Instr.fill (fun i=>pl.toArray[i]?) z.toArray vs=some cs.toArray
 | [],z,cs,h=>by simp[qH] at h;simp[Instr.fill,h]
 | (i,v)::r,z,cs,h=>by
  simp only[qH] at h;split at h
  ·rename_i off h1 h2;obtain⟨h3,h4⟩:=sH _ _ _ _ _ h;have ih:=tR pl r _ _ h4;have a0:v.cells=#[v]:=by cases v<;>first|rfl|cases h2
   simp only[Instr.fill,List.getElem?_toArray,h1,a0];have:¬(off+1>z.length):=by omega
   simp[this] at ih ⊢;exact ih
  ·cases h
def nT{P:Program}{w:World}:∀(fs:List Field) (pl:List (Nat×Nat)),fs.map (fun fd=>(fd.offset,(P.info? fd.type).map (·.size)))=pl.map (fun p=>(p.1,some p.2)) →
  (fs.mapM fun (f:Field)=>do pure (f.offset,←sizeOf f.type)).run P w=.ok pl w
 | [],pl,h=>by
  have:pl=[]:=by simpa using h.symm
  simp[this]
 | f::fs,[],h=>by simp at h
 | f::fs,p::pl,h=>by
  simp only[List.map_cons,List.cons.injEq,Prod.mk.injEq] at h;obtain⟨⟨h1,h2⟩,h3⟩:=h;cases hi:P.info? f.type with
  | none=>rw[hi] at h2;cases h2
  | some i =>
   rw[hi] at h2;simp at h2;have ih:=nT (P:=P) (w:=w) fs pl h3;simp at ih;simp[List.mapM_cons,sizeOf,typeInfo,hi,h2];simp[sizeOf,typeInfo] at ih;simp[ih,h1]
def Ev.build{t:TypeId}{ps:Array (Nat×Operand)}{vs:List (Nat×Value)}{pl:List (Nat×Nat)}{z cs:LV}[hs:TyStruct P t pl][hz:ZeroT P t z](hv:kH env ps.toList=some vs)(hc:qH pl vs z=some cs):Ev P L env (.build t ps) ty (.agg cs.toArray) :=
 Ev.mk (fun θ R ρ w ea s _ _ _ _=>by
  obtain⟨z0,h1,h2⟩:=hz.run w;have he:=hs.eq;cases hu:P.underlying t with
  | none=>rw[hu] at he;cases he
  | some dsc =>
   rw[hu] at he;cases dsc<;>simp[rR] at he;rename_i fs;have hm:=nT (P:=P) (w:=w) fs.toList pl (by simpa using he)
   have a0:ps.map (fun p=>(p.1,ρ p.2))=vs.toArray:=by
    apply Array.ext';simpa using ea.pairs ps.toList vs hv
   have a1 : (fs.mapM fun (f:Field)=>do pure (f.offset,←sizeOf f.type)).run P w=.ok pl.toArray w:=by
    have e:fs=fs.toList.toArray:=by simp
    rw[e,List.mapM_toArray];simp only[Sem.run_map,hm,Result.andThen_ok]
   have hf:=tR pl vs z cs hc;simp only[execOp,a0,Instr.build,Sem.run_bind,h1,Result.andThen_ok,run_underlying hu,a1,h2];simp only[hf];simp)
def appK:LV→LV→(LV→Option (LV))→Option (LV)
 | [],r,k=>k r
 | c::l,r,k=>appK l r fun x=>k (c::x)
def litK(sz:Nat):List (Nat×Value)→Nat→(LV→Option (LV))→Option (LV)
 | [],_,k=>k []
 | (j,.agg c)::r,i,k=>match Nat.beq j i,Nat.beq c.size sz with
  | true,true=>litK sz r (i+1) fun x=>appK c.toList x k
  | _,_=>none
 | (j,v)::r,i,k=>match Nat.beq j i,Nat.beq 1 sz with
  | true,true=>litK sz r (i+1) fun x=>k (v::x)
  | _,_=>none
def BT:∀(a r:LV) (k:LV→Option (LV)),appK a r k=k (a++r)
 | [],_,_=>rfl
 | c::l,r,k=>by simp[appK,BT l r]
def BA(sz:Nat):∀(vs:List (Nat×Value)) (i:Nat) (k:LV→Option (LV)) (r:LV),litK sz vs i k=some r →
  (∀p∈vs,p.2.cells.size=sz)∧vs.map (·.1)=List.range' i vs.length∧k (vs.flatMap fun p=>p.2.cells.toList)=some r
 | [],_,k,r,h=>by simpa [litK] using h
 | (j,v)::vs,i,k,r,h=>by
  have key:∀(h' : (match Nat.beq j i,Nat.beq v.cells.size sz with|true,true=>litK sz vs (i+1) (fun x=>k (v.cells.toList++x))|_,_=>none)=some r),
    (∀p∈(j,v)::vs,p.2.cells.size=sz)∧((j,v)::vs).map (·.1)=List.range' i ((j,v)::vs).length∧k (((j,v)::vs).flatMap fun p=>p.2.cells.toList)=some r:=by
   intro h';split at h'
   ·rename_i h1 h2;obtain⟨a1,a2,a3⟩:=BA sz vs (i+1) _ r h';have e1:j=i:=Nat.eq_of_beq_eq_true h1;have e2:v.cells.size=sz:=Nat.eq_of_beq_eq_true h2;refine⟨?_,?_,?_⟩
    ·intro p hp;rcases List.mem_cons.1 hp with rfl|hp
     ·exact e2
     ·exact a1 p hp
    ·simp[e1,List.range'_succ,a2]
    ·simpa using a3
   ·cases h'
  apply key;cases v<;>first|(simpa [litK,BT,Value.cells] using h)
def tN:∀(l:LV) (off k:Nat) (acc:LV),off+k+l.length≤acc.length →
  ((l.zipIdx k).foldl (fun (cs:Array Value) (p:Value×Nat)=>cs.setIfInBounds (off+p.2) p.1) acc.toArray)=(acc.take (off+k)++l++acc.drop (off+k+l.length)).toArray
 | [],off,k,acc,h=>by simp
 | v::l,off,k,acc,h=>by
  simp only[List.zipIdx_cons,List.foldl_cons,List.setIfInBounds_toArray];rw[tN l off (k+1) _ (by simp at h ⊢;omega)];have a0:off+k<acc.length:=by simp at h;omega
  congr 1
  have e1:(acc.set (off+k) v).take (off+(k+1))=acc.take (off+k)++[v]:=by
   rw[show off+(k+1)=off+k+1 by omega,List.take_succ_eq_append_getElem (by simpa using a0),List.take_set_of_le (Nat.le_refl _)];simp
  have e2:(acc.set (off+k) v).drop (off+(k+1)+l.length)=acc.drop (off+k+(l.length+1)):=by
   rw[List.drop_set_of_lt (by omega)];congr 1;omega
  rw[e1,e2];simp
def yA(sz:Nat):∀(vs:List (Nat×Value)) (i:Nat) (acc:LV),(∀p∈vs,p.2.cells.size=sz)→vs.map (·.1)=List.range' i vs.length→acc.length=(i+vs.length)*sz →
  Instr.fill (fun i=>some (i*sz,sz)) acc.toArray vs=some (acc.take (i*sz)++vs.flatMap fun p=>p.2.cells.toList).toArray
 | [],i,acc,_,_,h=>by
  have:acc.take (i*sz)=acc:=List.take_of_length_le (by simp at h;omega);simp[Instr.fill,this]
 | (j,v)::vs,i,acc,h1,h2,h3=>by
  simp only[List.map_cons,List.length_cons,List.range'_succ,List.cons.injEq] at h2;obtain⟨rfl,h2⟩:=h2;have hv:=h1 (j,v) List.mem_cons_self;simp only at hv
  have a1:j*sz+sz≤acc.length:=by
   rw[h3];have h4:(j+1)*sz≤(j+((j,v)::vs).length)*sz:=Nat.mul_le_mul_right _ (by simp);have h5:=Nat.add_mul j 1 sz;omega
  simp only[Instr.fill,hv,ne_eq,not_true_eq_false,List.size_toArray];have a2:¬(j*sz+sz>acc.length):=by omega
  simp only[decide_false,Bool.false_or,gt_iff_lt,decide_eq_true_eq];rw[if_neg (by omega)]
  have a0:(v.cells.zipIdx.foldl (fun cs x=>match x with|(c,k)=>cs.setIfInBounds (j*sz+k) c) acc.toArray)=(acc.take (j*sz)++v.cells.toList++acc.drop (j*sz+sz)).toArray:=by
   have:=tN v.cells.toList (j*sz) 0 acc (by simp[hv];omega)
   rw[←Array.foldl_toList];simp only[Array.toList_zipIdx];simp only[Nat.add_zero,Array.length_toList,hv] at this;exact this
  rw[a0]
  rw[yA sz vs (j+1) _ (fun p hp=>h1 p (List.mem_cons_of_mem _ hp)) h2 (by
   simp only[List.length_append,List.length_take,Array.length_toList,hv,List.length_drop];simp only[List.length_cons] at h3;have e:(j+1+vs.length)*sz=(j+(vs.length+1))*sz:=by congr 1;omega
   rw[e,←h3];omega)]
  have e1:(acc.take (j*sz)++v.cells.toList++acc.drop (j*sz+sz)).take ((j+1)*sz)=acc.take (j*sz)++v.cells.toList:=by
   rw[List.take_append_of_le_length (by simp[hv,Nat.add_mul];omega)];apply List.take_of_length_le;simp[hv,Nat.add_mul];omega
  rw[e1];simp
def Ef.lit{t:TypeId}{len:Nat}{ps:Array (Nat×Operand)}{vs:List (Nat×Value)}{E sz bb:Nat}{z cs:LV}[ht:TySl P t E sz bb z](hv:kH env ps.toList=some vs)(hn:vs.length=len)(hl:len*sz≤16777216)(hc:litK sz vs 0 some=some cs)
  : Ef P L env (.buildSlice t len ps) ty (fun v L'=>∃b,v=.slice (some ⟨b,0,none⟩) len len∧L' = obj b E cs::L):=by
 obtain⟨a1,a2,a3⟩:=BA sz vs 0 some cs hc;refine Ef.buildSlice hv hl ?_;simp only[rW,Option.map_eq_some_iff];have e:(Array.range (len*sz)).map (z.toArray[· % z.length]!)=((List.range (len*sz)).map (z.toArray[· % z.length]!)).toArray:=by apply Array.ext';simp
 rw[e,yA sz vs 0 _ a1 (by rw[a2]) (by simp[hn])];simp only[Option.some.injEq] at a3;exact⟨_,rfl,by simp[a3]⟩
def advA(ad:OA)(cap sz k:Nat):OA:=if cap=k then ad else ad.map (·.add (k*sz))
def Ev.p6{t:TypeId}{x hi:Operand}{ad:OA}{n c E sz bb:Nat}{z:LV}{k:IntKind}{j:Int}[ht:TySl P t E sz bb z](hx:evE env x=some (.slice ad n c))(hh:evE env hi=some (.int k j))(h0:0≤j)(h1:j≤c):Ev P L env (.slice t x none (some hi) none) ty (.slice ad j.toNat c) :=
 Ev.mk (fun _ _ _ w ea _ _ _ _ _=>by
  obtain⟨ii,z0,i1,i2,i3,i4,i5⟩:=ht.parts;simp[execOp,aL ea hx,aL ea hh,Instr.sliceAt,Instr.slice,run_underlying ht.under,Instr.sliceBounds,Instr.sliceBound,asIntOf,h0,h1,sizeOf,typeInfo,i1];intro;cases ad<;>simp[Addr.add])
def Ev.m9{t:TypeId}{x lo:Operand}{ad:OA}{n c E sz bb:Nat}{z:LV}{k:IntKind}{j:Int}[ht:TySl P t E sz bb z](hx:evE env x=some (.slice ad n c))(hl:evE env lo=some (.int k j))(h0:0≤j)(h1:j≤n):Ev P L env (.slice t x (some lo) none none) ty (.slice (advA ad c sz j.toNat) (n - j.toNat) (c - j.toNat)) :=
 Ev.mk (fun _ _ _ w ea _ _ _ _ _=>by
  obtain⟨ii,z0,i1,i2,i3,i4,i5⟩:=ht.parts;simp[execOp,aL ea hx,aL ea hl,Instr.sliceAt,Instr.slice,run_underlying ht.under,Instr.sliceBounds,Instr.sliceBound,asIntOf,h0,h1,sizeOf,typeInfo,i1,i4,advA])
def Ev.o7{t:TypeId}{x lo hi:Operand}{ad:OA}{n c E sz bb:Nat}{z:LV}{k k' : IntKind}{i j:Int}[ht:TySl P t E sz bb z](hx:evE env x=some (.slice ad n c))(hl:evE env lo=some (.int k i))(hh:evE env hi=some (.int k' j))(h0:0≤i)(h1:i≤j)(h2:j≤c):Ev P L env (.slice t x (some lo) (some hi) none) ty (.slice (advA ad c sz i.toNat) (j.toNat - i.toNat) (c - i.toNat)) :=
 Ev.mk (fun _ _ _ w ea _ _ _ _ _=>by
  obtain⟨ii,z0,i1,i2,i3,i4,i5⟩:=ht.parts;have hj:0≤j:=by omega
  have a1:i≤(j.toNat:Int):=by omega
  have a0 : i≤max j 0:=by omega
  simp[execOp,aL ea hx,aL ea hl,aL ea hh,Instr.sliceAt,Instr.slice,run_underlying ht.under,Instr.sliceBounds,Instr.sliceBound,asIntOf,h0,hj,h2,a0,sizeOf,typeInfo,i1,i4,advA])
def RdSl.drop{α:Type}{w:World}{enc:α→LV}{sz:Nat}{ad:OA}{xs:List α}(h:RdSl w enc sz ad xs){cap:Nat}(hc:xs.length≤cap)(k:Nat):RdSl w enc sz (advA ad cap sz k) (xs.drop k):=by
 obtain⟨h1,h2⟩:=h;refine⟨fun x hx=>h1 x (List.mem_of_mem_drop hx),?_⟩;by_cases hk:xs.length≤k
 ·exact .inl (List.drop_eq_nil_of_le hk)
 ·rcases h2 with h2|⟨a,rfl,h3⟩
  ·subst h2;simp at hk
  ·refine .inr ⟨a.add (k*sz),?_,?_⟩
   ·have:¬cap=k:=by omega
    simp[advA,this]
   ·intro i v hv
    have e:(a.add (k*sz)).add i=a.add (k*sz+i):=by
     unfold Addr.add;(repeat' split)<;>first|rfl|omega|(simp;omega)|(simp_all;done)
    rw[e];apply h3;have a0:xs.flatMap enc=(xs.take k).flatMap enc++(xs.drop k).flatMap enc:=by rw[←List.flatMap_append,List.take_append_drop]
    have a1:((xs.take k).flatMap enc).length=k*sz:=by
     rw[dm (fun x hx=>h1 x (List.mem_of_mem_take hx)),List.length_take,Nat.min_eq_left (by omega)]
    rw[a0,List.getElem?_append_right (by omega),a1];rw[show k*sz+i - k*sz=i by omega];exact hv
def RdSl.take{α:Type}{w:World}{enc:α→LV}{sz:Nat}{ad:OA}{xs:List α}(h:RdSl w enc sz ad xs)(k:Nat):RdSl w enc sz ad (xs.take k):=by
 obtain⟨h1,h2⟩:=h;refine⟨fun x hx=>h1 x (List.mem_of_mem_take hx),?_⟩;rcases h2 with h2|⟨a,rfl,h3⟩
 ·exact .inl (by simp[h2])
 ·refine .inr ⟨a,rfl,fun i v hv=>h3 i v ?_⟩;have a0:xs.flatMap enc=(xs.take k).flatMap enc++(xs.drop k).flatMap enc:=by rw[←List.flatMap_append,List.take_append_drop]
  rw[a0,List.getElem?_append_left (List.getElem?_eq_some_iff.1 hv).1];exact hv
theorem Rds.drop{α:Type}{enc:α→LV}{sz:Nat}{ad:OA}{xs:List α}(h:Rds L ad α enc sz xs){cap:Nat}(hc:xs.length≤cap)(k:Nat):Rds L (advA ad cap sz k) α enc sz (xs.drop k):=⟨fun θ R w s=>(h.rd θ R w s).drop hc k⟩
theorem Rds.take{α:Type}{enc:α→LV}{sz:Nat}{ad:OA}{xs:List α}(h:Rds L ad α enc sz xs)(k:Nat):Rds L ad α enc sz (xs.take k):=⟨fun θ R w s=>(h.rd θ R w s).take k⟩
def omap{α:Type}(enc:α→Value)(b:Nat)(m:List (Int×α)):HP:=fun _ h =>
 ∃es a0,h b=some (.map es a0)∧es.toList.map (fun e=>(e.key,e.val))=m.map (fun p=>(Value.int .i64 p.1,enc p.2))∧(m.map (·.1)).Nodup∧es.size≤a0∧(∀e∈es,e.born<a0)∧(es.toList.map (·.born)).Nodup
class PickMap (L:LH) (b:Nat) (α:outParam Type) (enc:outParam (α→Value)) (m:outParam (List (Int×α))) (R:outParam (LH)):Prop where
 perm:L.Perm (omap enc b m::R)
def ains{α:Type}(m:List (Int×α))(k:Int)(a:α):List (Int×α):=if m.any (fun p=>p.1 == k) then m.map (fun p=>if p.1=k then(k,a) else p) else m++[(k,a)]
def aera{α:Type}(m:List (Int×α))(k:Int):List (Int×α):=m.filter (fun p=>!(p.1 == k))
def Sat.omap_parts{α:Type}{θ:Th}{enc:α→Value}{b:Nat}{m:List (Int×α)}{L:LH}{w:World}(s:Sat θ (omap enc b m::L) w) :
  ∃es a0,es.toList.map (fun e=>(e.key,e.val))=m.map (fun p=>(Value.int .i64 p.1,enc p.2))∧(m.map (·.1)).Nodup∧es.size≤a0∧(∀e∈es,e.born<a0)∧(es.toList.map (·.born)).Nodup∧Sat θ (own b (.map es a0)::L) w:=by
 obtain⟨ok,ι,h,a,b1,c,ι₀,h₁,h₂,d1,d2,d3,d4,⟨es,a0,e1,e2,e3,e4,e5,e6⟩,d6⟩:=s;exact⟨es,a0,e2,e3,e4,e5,e6,ok,ι,h,a,b1,c,ι₀,h₁,h₂,d1,d2,d3,d4,e1,d6⟩
def Sat.c9{α:Type}{θ:Th}{enc:α→Value}{b:Nat}{m:List (Int×α)}{L:LH}{w:World}{es:Array MapEntry}{a0:Nat}(s:Sat θ (own b (.map es a0)::L) w)
  (h1:es.toList.map (fun e=>(e.key,e.val))=m.map (fun p=>(Value.int .i64 p.1,enc p.2))) (h2:(m.map (·.1)).Nodup) (h3:es.size≤a0) (h4:∀e∈es,e.born<a0) (h5:(es.toList.map (·.born)).Nodup):Sat θ (omap enc b m::L) w:=by
 obtain⟨ok,ι,h,a,b1,c,ι₀,h₁,h₂,d1,d2,d3,d4,d5,d6⟩:=s;exact⟨ok,ι,h,a,b1,c,ι₀,h₁,h₂,d1,d2,d3,d4,⟨es,a0,d5,h1,h2,h3,h4,h5⟩,d6⟩
def Ef.makeMap{t:TypeId}{α:Type}(enc:α→Value):Ef P L env (.makeMap t none) ty (fun v L'=>∃b,v=.map (some b)∧L' = omap enc b []::L) :=
 Ef.val (fun θ R a w ea s a0 pos af g=>⟨_,w.alloc (.map #[] 0),_,by simp[execOp,Instr.makeMap],⟨_,rfl,rfl⟩,Sat.c9 s.alloc (by simp) (by simp) (by simp) (by simp) (by simp)⟩)
def nW{α:Type}{enc:α→Value}{kk:IntKind}(k:Int):∀(es:List MapEntry) (m:List (Int×α)) (i:Nat),es.map (fun e=>(e.key,e.val))=m.map (fun p=>(Value.int .i64 p.1,enc p.2)) →
  Instr.findNow (.int kk) (.int .i64 k) es i=some ((m.findIdx? (fun p=>p.1 == k)).map fun j=>(i+j,(m[j]?.map (fun p=>enc p.2)).getD undef))
 | [],[],i,_=>by simp[Instr.findNow]
 | [],_::_,_,h=>by simp at h
 | _::_,[],_,h=>by simp at h
 | e::es,p::m,i,h=>by
  simp only[List.map_cons,List.cons.injEq,Prod.mk.injEq] at h;obtain⟨⟨h1,h2⟩,h3⟩:=h;have ih:=nW (kk:=kk) k es m (i+1) h3;simp only[Instr.findNow,h1,Instr.sameNow,if_true];by_cases hk:k=p.1
  ·subst hk;simp[List.findIdx?_cons,h2]
  ·have hb:(k == p.1)=false:=by simpa using hk
   have a0 : (p.1 == k)=false:=by simpa using fun h=>hk h.symm
   simp only[hb,ih,List.findIdx?_cons,a0];cases List.findIdx? (fun p=>p.1 == k) m<;>simp;omega
def lk{t:TypeId}{k:IntKind}{kk:IntKind}{n:Int}{w:World}{b:Bool}(h:P.underlying t=some (.int kk)):(Instr.checkKey b 10000 t (.int k n)).run P w=.ok () w:=by
 have:∀m,(Instr.checkKey b (m+1) t (.int k n)).run P w=.ok () w:=fun m=>by simp[Instr.checkKey,run_underlying h]
 exact this 9999
class TyKeyI (P:Program) (T:Nat) (E:outParam Nat) (z:outParam Value):Prop where
 ok:∃K k,P.underlying T=some (.map K E)∧P.underlying K=some (.int k)∧(P.info? E).map (·.zero)=some (some z)
def iI{w:World}{b:Nat}{es a0 : Array MapEntry}{c c' : Nat}(hb:w.heap[b]? = some (.map es c)):(setObj b (.map a0 c')).run P w=.ok () { w with heap:=w.heap.setIfInBounds b (.map a0 c') }:=by simp[setObj,Sem.run,hb]
def Sat.setMap{θ:Th}{b:Nat}{o o' : Obj}{L:LH}{w:World}(s:Sat θ (own b o::L) w):Sat θ (own b o'::L) { w with heap:=w.heap.setIfInBounds b o' }:=by
 have hb:=s.own_heap;have a0:=(Array.getElem?_eq_some_iff.1 hb).1;refine s.update ⟨s.1.tape,s.1.os,s.1.output,s.1.drawn⟩ ?_ (fun k x hk hx=>?_)
 ·simp[a0]
 ·simp only;rw[Array.getElem?_setIfInBounds_ne (Ne.symm hk)];exact hx
def Gi{α:Type}{m:List (Int×α)}{k:Int}{a:α}(h:(m.map (·.1)).Nodup):((ains m k a).map (·.1)).Nodup:=by
 unfold ains;split
 ·rw[List.map_map]
  have:(fun p:Int×α=>(if p.1=k then(k,a) else p).1)=(·.1):=by
   funext p;split
   ·rename_i h;exact h.symm
   ·rfl
  show((m.map ((·.1) ∘ fun p=>if p.1=k then(k,a) else p))).Nodup;rw[show((·.1) ∘ fun p:Int×α=>if p.1=k then(k,a) else p)=(fun p:Int×α=>(if p.1=k then(k,a) else p).1) from rfl,this];exact h
 ·rename_i hn;rw[List.map_append,List.nodup_append];refine⟨h,by simp,?_⟩;intro x hx y hy;simp at hy;subst hy;rintro rfl;apply hn;obtain⟨p,hp,rfl⟩:=List.mem_map.1 hx;exact List.any_eq_true.2 ⟨p,hp,by simp⟩
def uO{α:Type}{m:List (Int×α)}{k:Int}{j:Nat}(h:m.findIdx? (fun p=>p.1 == k)=some j):m.any (fun p=>p.1 == k)=true:=by
 obtain⟨a0,h1,_⟩:=List.findIdx?_eq_some_iff_getElem.1 h;exact List.any_eq_true.2 ⟨m[j],List.getElem_mem a0,h1⟩
def lU{α:Type}{k:Int}{a:α}:∀{m:List (Int×α)} {j:Nat},(m.map (·.1)).Nodup→m.findIdx? (fun p=>p.1 == k)=some j→m.map (fun p=>if p.1=k then(k,a) else p)=m.set j (k,a)
 | [],j,_,h=>by simp at h
 | p::m,j,hn,h=>by
  simp only[List.map_cons,List.nodup_cons] at hn;rw[List.findIdx?_cons] at h;by_cases hk:p.1=k
  ·simp[hk] at h;subst h;simp only[List.map_cons,hk,if_true,List.set_cons_zero,List.cons.injEq,true_and];rw[List.map_congr_left (g:=id),List.map_id];intro q hq;have:q.1≠k:=fun e=>hn.1 (by rw[hk,←e];exact List.mem_map_of_mem hq);simp[this]
  ·have hb:(p.1 == k)=false:=by simpa using hk
   simp only[hb] at h;obtain⟨i,hi,rfl⟩:=Option.map_eq_some_iff.1 h;simp only[List.map_cons,hk,if_false,List.set_cons_succ,List.cons.injEq,true_and];exact lU hn.2 hi
def Ef.mapUpdate{t:TypeId}{x y z' : Operand}{b E:Nat}{z v:Value}{α:Type}{enc:α→Value}{m:List (Int×α)}{Rest:LH}{k:Int}(e:α)[ht:TyKeyI P t E z][hp:PickMap L b α enc m Rest](hx:evE env x=some (.map (some b)))(hy:evE env y=some (.int .i64 k))(hz:evE env z' = some v)(hv:v=enc e)
  : Ef P L env (.mapUpdate t x y z') ty (fun _ L'=>L' = omap enc b (ains m k e)::Rest) :=
 Ef.skip (fun θ R a w ea s b3 pos af g=>by
  subst hv;obtain⟨K,kk,h1,h2,h3⟩:=ht.ok;obtain⟨es,a0,e1,e2,e3,e4,e5,s2⟩:=(s.perm (hp.perm.append_right R)).omap_parts;have hb:=s2.own_heap;have hf:=nW (kk:=kk) k es.toList m 0 e1;have a1:(getObj b).run P w=.ok (.map es a0) w:=by simp[getObj,Sem.run,hb]
  have a9:=Gi (k:=k) (a:=e) e2;cases hj:m.findIdx? (fun p=>p.1 == k) with
  | none =>
   rw[hj] at hf;simp only[Option.map_none] at hf
   have b1:m.any (fun p=>p.1 == k)=false:=by
    rw[List.findIdx?_eq_none_iff] at hj;simpa using hj
   refine⟨_,_,?_,rfl,Sat.c9 (s2.setMap (o':=.map (es.push { key:=.int .i64 k,val:=enc e,born:=a0 }) (a0+1))) ?_ a9 ?_ ?_ ?_⟩
   ·simp[execOp,aL ea hx,aL ea hy,aL ea hz,Instr.mapUpdate,run_underlying h1,a1,lk h2,Instr.findKey,run_underlying h2,hf,iI hb]
   ·simp[e1,ains,b1]
   ·simp;omega
   ·intro x hx;rcases Array.mem_push.1 hx with hx|rfl
    ·have:=e4 x hx;omega
    ·simp
   ·simp only[Array.toList_push,List.map_append,List.map_cons,List.map_nil];rw[List.nodup_append];refine⟨e5,by simp,?_⟩;intro x hx y hy;simp at hy;subst hy;obtain⟨q,hq,rfl⟩:=List.mem_map.1 hx;have:=e4 q (by simpa using hq)
    omega
  | some j =>
   rw[hj] at hf;simp only[Option.map_some,Nat.zero_add] at hf;have a4:=uO hj;have a6:=lU (a:=e) e2 hj;obtain⟨a3,a7,_⟩:=List.findIdx?_eq_some_iff_getElem.1 hj
   have b4:es.size=m.length:=by
    have:=congrArg List.length e1
    simpa using this
   have a5:((es[j]?).map (·.key)).getD (Value.int .i64 k)=.int .i64 k:=by
    have h5:=congrArg (fun l=>l[j]?) e1;simp only[List.getElem?_map,List.getElem?_eq_getElem a3,Array.getElem?_toList] at h5;rw[Array.getElem?_eq_getElem (by omega)] at h5 ⊢;simp at h5 ⊢;rw[h5.1];simp at a7;rw[a7]
   have b2:(Instr.keyThatStays (((es[j]?).map (·.key)).getD (Value.int .i64 k)) (.int .i64 k)).run P w=.ok (.int .i64 k) w:=by
    rw[a5]
    have:Instr.sameBits 10000 (.int .i64 k) (.int .i64 k)=true:=by
     show Instr.sameBits (9999+1) (.int .i64 k) (.int .i64 k)=true;simp[Instr.sameBits]
    simp[Instr.keyThatStays,this]
   refine⟨_,_,?_,rfl,Sat.c9 (s2.setMap (o':=.map (es.modify j fun x=>{ x with key:=.int .i64 k,val:=enc e }) a0)) ?_ a9 ?_ ?_ ?_⟩
   ·simp[execOp,aL ea hx,aL ea hy,aL ea hz,Instr.mapUpdate,run_underlying h1,a1,lk h2,Instr.findKey,run_underlying h2,hf,b2,iI hb]
   ·simp only[ains,a4,if_true,a6];rw[Array.toList_modify];apply List.ext_getElem?;intro i;have h5:=congrArg (fun l=>l[i]?) e1;simp only[List.getElem?_map] at h5;simp only[List.getElem?_map,List.getElem?_modify,List.getElem?_set];by_cases a2:j=i
    ·subst a2;have b0:j<es.toList.length:=by simp;omega
     simp[a3,List.getElem?_eq_getElem b0]
    ·simp only[a2,if_false];cases hq:es.toList[i]? with
     | none=>rw[hq] at h5;simpa using h5
     | some q=>rw[hq] at h5;simpa using h5
   ·simpa using e3
   ·intro x hx;obtain⟨i,hi,rfl⟩:=Array.mem_iff_getElem.1 hx;rw[Array.getElem_modify];have h6:es[i]'(by simpa using hi)∈es:=Array.getElem_mem _;split
    ·exact e4 (es[i]'(by simpa using hi)) h6
    ·exact e4 _ h6
   ·have:(es.modify j fun x=>{ x with key:=.int .i64 k,val:=enc e }).toList.map (·.born)=es.toList.map (·.born):=by
     rw[Array.toList_modify];apply List.ext_getElem?;intro i;simp only[List.getElem?_map,List.getElem?_modify];by_cases a2:j=i
     ·subst a2;cases es.toList[j]?<;>simp
     ·simp[a2]
    rw[this];exact e5)
def zd{α:Type}{k:Int}:∀{m:List (Int×α)} {j:Nat},(m.map (·.1)).Nodup→m.findIdx? (fun p=>p.1 == k)=some j→aera m k=m.eraseIdx j
 | [],j,_,h=>by simp at h
 | p::m,j,hn,h=>by
  simp only[List.map_cons,List.nodup_cons] at hn;rw[List.findIdx?_cons] at h;by_cases hk:p.1=k
  ·simp[hk] at h;subst h;simp only[aera,List.filter_cons,hk,beq_self_eq_true,Bool.not_true,Bool.false_eq_true,if_false,List.eraseIdx_zero,List.tail_cons];apply List.filter_eq_self.2;intro q hq;have:q.1≠k:=fun e=>hn.1 (by rw[hk,←e];exact List.mem_map_of_mem hq);simp[this]
  ·have hb:(p.1 == k)=false:=by simpa using hk
   simp only[hb] at h;obtain⟨i,hi,rfl⟩:=Option.map_eq_some_iff.1 h;have ih:=zd hn.2 hi;simp only[aera,List.filter_cons,hb,Bool.not_false,if_true,List.eraseIdx_cons_succ,List.cons.injEq,true_and];exact ih
def jJ{β γ:Type}(f:β→γ):∀(l:List β) (j:Nat),(l.eraseIdx j).map f=(l.map f).eraseIdx j
 | [],j=>by simp
 | x::l,0=>by simp
 | x::l,j+1=>by simp[jJ f l j]
def Ef.delete{t kt:TypeId}{x y:Operand}{b E:Nat}{z:Value}{α:Type}{enc:α→Value}{m:List (Int×α)}{Rest:LH}{k:Int}[ht:TyKeyI P t E z][hp:PickMap L b α enc m Rest](hx:evE env x=some (.map (some b)))(hy:evE env y=some (.int .i64 k))
  : Ef P L env (.call { callee:=.builtin .delete,args:=#[x,y],argTypes:=#[t,kt] }) ty (fun _ L'=>L' = omap enc b (aera m k)::Rest) :=
 Ef.val (fun θ R a w ea s a7 pos af g=>by
  obtain⟨K,kk,h1,h2,h3⟩:=ht.ok;obtain⟨es,a0,e1,e2,e3,e4,e5,s2⟩:=(s.perm (hp.perm.append_right R)).omap_parts;have hb:=s2.own_heap;have hf:=nW (kk:=kk) k es.toList m 0 e1;have a1:(getObj b).run P w=.ok (.map es a0) w:=by simp[getObj,Sem.run,hb]
  have a5:((aera m k).map (·.1)).Nodup:=e2.sublist ((List.filter_sublist).map _)
  have b0:es.size=m.length:=by
   have:=congrArg List.length e1
   simpa using this
  cases hj:m.findIdx? (fun p=>p.1 == k) with
  | none =>
   rw[hj] at hf;simp only[Option.map_none] at hf;have a3:=List.findIdx?_eq_none_iff.1 hj;have he:aera m k=m:=List.filter_eq_self.2 fun p hp=>by simp[a3 p hp]
   refine⟨.tuple #[],_,_,?_,rfl,Sat.c9 (s2.setMap (o':=.map es a0)) (by rw[he];exact e1) a5 e3 e4 e5⟩;simp[execOp,resolve,invoke,builtin,aL ea hx,aL ea hy,Builtin.delete_,run_underlying h1,a1,lk h2,Instr.findKey,run_underlying h2,hf,iI hb]
  | some j =>
   rw[hj] at hf;simp only[Option.map_some,Nat.zero_add] at hf;have a4:=zd e2 hj;obtain⟨a6,a9,_⟩:=List.findIdx?_eq_some_iff_getElem.1 hj
   have a2:(es.eraseIdxIfInBounds j).toList=es.toList.eraseIdx j:=by
    simp[Array.eraseIdxIfInBounds,show j<es.size by omega]
   refine⟨.tuple #[],_,_,?_,rfl,Sat.c9 (s2.setMap (o':=.map (es.eraseIdxIfInBounds j) a0)) ?_ a5 ?_ ?_ ?_⟩
   ·simp[execOp,resolve,invoke,builtin,aL ea hx,aL ea hy,Builtin.delete_,run_underlying h1,a1,lk h2,Instr.findKey,run_underlying h2,hf,iI hb]
   ·rw[a2,a4,jJ,jJ,e1]
   ·have h7:(es.eraseIdxIfInBounds j).size=(es.toList.eraseIdx j).length:=by rw[←a2,Array.length_toList]
    have h8:(es.toList.eraseIdx j).length≤es.toList.length:=List.length_eraseIdx_le es.toList j;have h9:es.toList.length=es.size:=Array.length_toList;omega
   ·intro x hx;have:x∈es.toList.eraseIdx j:=by rw[←a2];exact Array.mem_toList_iff.2 hx
    exact e4 x (by simpa using List.mem_of_mem_eraseIdx this)
   ·rw[a2,jJ];exact e5.sublist (List.eraseIdx_sublist _ _))
end ops
end
section
class PickHP (L:LH) (A:HP) (R:outParam (LH)):Prop where
 perm:L.Perm (A::R)
instance (A:HP)(L:LH):PickHP (A::L) A L:=⟨List.Perm.refl _⟩
instance (A B:HP)(L R:LH)[h:PickHP L A R]:PickHP (B::L) A (B::R):=⟨(h.perm.cons B).trans (List.Perm.swap _ _ _)⟩
def Ent.take{L R pre R' : LH}{A:HP}[h:PickHP L A R](hr:Ent R (pre++R')):Ent L ((A::pre)++R'):=(Ent.perm h.perm).trans hr.cons
def Ent.l9{L R L' : LH}{A:HP}[h:PickHP L A R](hr:Ent R L'):Ent L (A::L'):=(Ent.perm h.perm).trans hr.cons
def Ef.d9{P:Program}{env:Env}{L:LH}{f:FuncId}{xs:Array Operand}{ats:Array TypeId}{ty:TypeId}{vs:LV}{post:Value→LH→Prop}
  (c:Tri P f vs.toArray L post) (hv:fD env xs.toList=some vs):Ef P L env (.call { callee:=.value (.func f),args:=xs,argTypes:=ats }) ty post:=by
 have h:=Ef.call (R':=[]) (L:=L) (ats:=ats) (ty:=ty) c hv (by rw[List.append_nil];exact Ent.refl _);intro θ R a w o next Q ha s h1 h2 hn
 refine h θ R a w o next Q ha s h1 h2 ?_
 rintro v L' w' ⟨L₁,hp,rfl⟩ s';rw[List.append_nil] at s';exact hn v L₁ w' hp s'
def Ent.mk{L L' : LH}(h:∀θ R w,Sat θ (L++R) w→Sat θ (L'++R) w):Ent L L':=h
def Ent.sat{L L' : LH}(h:Ent L L'){θ:Th}{R:LH}{w:World}(s:Sat θ (L++R) w):Sat θ (L'++R) w:=h θ R w s
def Ent.o0{A B:HP}{L:LH}(h:∀θ R w,Sat θ (A::R) w→Sat θ (B::R) w):Ent (A::L) (B::L):=fun θ R w s=>h θ (L++R) w s
section at_
variable {P:Program}{N:Nat}{env:Env}{L:LH}{K:Post}{ty:TypeId}{v:Value}
def Ev.u6{x:Operand}(h:Ev P L env (.move x) ty v):Ev P L env (.move x) ty v:=h
def Ev.p5{x:Operand}(h:Ev P L env (.assign x) ty v):Ev P L env (.assign x) ty v:=h
def Ev.u0{a b c:Operand}(h:Ev P L env (.pick a b c) ty v):Ev P L env (.pick a b c) ty v:=h
def Ev.n9{x:Operand}{i:Nat}(h:Ev P L env (.extract x i) ty v):Ev P L env (.extract x i) ty v:=h
def Ev.w7{o:BinOp}{t yt:TypeId}{x y:Operand}(h:Ev P L env (.binOp o t x y yt) ty v):Ev P L env (.binOp o t x y yt) ty v:=h
def Ev.y8{o:UnOp}{t:TypeId}{x:Operand}(h:Ev P L env (.unOp o t x) ty v):Ev P L env (.unOp o t x) ty v:=h
def Ev.l8{s t:TypeId}{x:Operand}(h:Ev P L env (.convert s t x) ty v):Ev P L env (.convert s t x) ty v:=h
def Ev.w6{x:Operand}(h:Ev P L env (.nilCheck x) ty v):Ev P L env (.nilCheck x) ty v:=h
def Ev.l0{s f:Nat}{x:Operand}(h:Ev P L env (.fieldAddr s x f) ty v):Ev P L env (.fieldAddr s x f) ty v:=h
def Ev.n8{t:TypeId}{x:Operand}(h:Ev P L env (.load t x) ty v):Ev P L env (.load t x) ty v:=h
def Ev.j6{t:TypeId}{x i:Operand}(h:Ev P L env (.indexAddr t x i) ty v):Ev P L env (.indexAddr t x i) ty v:=h
def Ev.p8{t:TypeId}{ps:Array (Nat×Operand)}(h:Ev P L env (.build t ps) ty v):Ev P L env (.build t ps) ty v:=h
def Ev.p7{t:TypeId}{x:Operand}{a b c:Option Operand}(h:Ev P L env (.slice t x a b c) ty v):Ev P L env (.slice t x a b c) ty v:=h
def Ev.u9{c:Call}(h:Ev P L env (.call c) ty v):Ev P L env (.call c) ty v:=h
def Ev.u7{fn:Fn}{fs cs:Array Operand}(h:Ev P L env (.makeFunc fn fs cs) ty v):Ev P L env (.makeFunc fn fs cs) ty v:=h
variable {ops:Array Oper}{rest:List Oper}{op:Op}{pos:String}{af:Array Edge}
def GO.a8{d:Nat}(h:GO P N ops (⟨some d,op,ty,pos,af,none⟩::rest) env L K):GO P N ops (⟨some d,op,ty,pos,af,none⟩::rest) env L K:=h
def GO.g8(h:GO P N ops (⟨none,op,ty,pos,af,none⟩::rest) env L K):GO P N ops (⟨none,op,ty,pos,af,none⟩::rest) env L K:=h
def GO.d8{d j:Nat}{b:Bool}(h:GO P N ops (⟨some d,op,ty,pos,af,some (j,b)⟩::rest) env L K):GO P N ops (⟨some d,op,ty,pos,af,some (j,b)⟩::rest) env L K:=h
variable {done:List Nat}{plan:List Stp}{pend:List PE}{i:Nat}
def GP.d9{s:Stp}(h:GP P N ops done (s::plan) pend env L K):GP P N ops done (s::plan) pend env L K:=h
def GPW.c8{d:Nat}(h:GPW P N ops done (.ev i) plan (some d) op ty pend env L K):GPW P N ops done (.ev i) plan (some d) op ty pend env L K:=h
def GPW.c9{d:Nat}(h:GPW P N ops done (.ef i) plan (some d) op ty pend env L K):GPW P N ops done (.ef i) plan (some d) op ty pend env L K:=h
def GPW.c7(h:GPW P N ops done (.ef i) plan none op ty pend env L K):GPW P N ops done (.ef i) plan none op ty pend env L K:=h
def GPK.a8{pe:PE}{ts acc:List PE}(h:GPK P N ops done i plan (pe::ts) acc env L K):GPK P N ops done i plan (pe::ts) acc env L K:=h
def G.j5(id:Nat){l:Array Oper}{dr:Bool}{x y:Code}(h:G P N (.seq (.seq (.region id l dr) x) y) env L K):G P N (.seq (.seq (.region id l dr) x) y) env L K:=h
def G.atS(id:Nat){l:Array Oper}{dr:Bool}{y:Code}(h:G P N (.seq (.region id l dr) y) env L K):G P N (.seq (.region id l dr) y) env L K:=h
def G.a8{id:Nat}{l:List Oper}(h:G P N (.region id l.toArray true) env L K):G P N (.region id l.toArray true) env L K:=h
