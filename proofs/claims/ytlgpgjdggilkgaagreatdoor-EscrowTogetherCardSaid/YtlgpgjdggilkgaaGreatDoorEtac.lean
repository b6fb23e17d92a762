/- Lemmas. -/
import Derived.Test.YtlgpgjdggilkgaaGreatDoorEtab
import Derived.OrdersHeld
set_option linter.all false
namespace Go.V
section
section any
variable {P:Program}{ops:Array Oper}{F5:Exit->Act->World->Prop}{md:Region.Mode}
inductive UG (md:Region.Mode) (ops:Array Oper):Nat->Nat->Prop where
 | one {j i:Nat} {o:Oper} {e:Edge}:ops[j]? = some o->e∈o.after->Region.binds md e=true->e.on=i->UG md ops j i
 | more {j i:Nat} {o:Oper} {e:Edge}:ops[j]? = some o->e∈o.after->Region.binds md e=true->UG md ops e.on i->UG md ops j i
def Oa(md:Region.Mode)(M:Array Oper)(B:Array Bool):Prop:=∀j o,M[j]? = some o->B.getD j false=true->∀e∈o.after,Region.binds md e=true->B.getD e.on false=true
def Oa.dep{B:Array Bool}(h:Oa md ops B){j i:Nat}(hd:UG md ops j i)(hj:∀o,ops[j]? = some o->∀e∈o.after,Region.binds md e=true->B.getD e.on false=true):B.getD i false=true:=by
 induction hd with
 | one K T h3 h4=>subst h4;exact hj _ K _ T h3
 | more K T h3 _ ih=>exact ih λo ho e he hb=>h _ o ho (hj _ K _ T h3) e he hb
theorem Oa.set{B:Array Bool}(h:Oa md ops B){i:Nat}(hi:i∈Region.ready md ops B):Oa md ops (B.setIfInBounds i true):=by
 intro j o ho hj e he hb;obtain⟨_,oi,a3,M⟩:=mem_ready.1 hi;by_cases a2:i=j
 .subst a2;rw[a3] at ho;cases ho;exact getD_set_true (M e he hb)
 .rw[getD_set_ne false a2] at hj;exact getD_set_true (h j o ho hj e he hb)
theorem Oa.a8(n:Nat):Oa md ops (Array.replicate n false):=by
 intro j o _ hj;simp[Array.getElem?_replicate] at hj;split at hj<;>simp at hj
abbrev TK:=List (Nat×(World->Prop))
def kp(dep:Nat->Nat->Bool)(j:Nat)(S:TK):TK:=S.filter λp=>!dep j p.1
def PZ(P:Program)(md:Region.Mode)(B:Array Oper)(F5:Exit->Act->World->Prop)(dep:Nat->Nat->Bool):Nat->Array Bool->TK->Act->World->Prop
 | 0,listed,_,a,w=>Region.ready md B listed=[]/\F5 .normal a w
 | fuel+1,listed,S,a,w =>
  (Region.ready md B listed=[]->F5 .normal a w) /\
  ∀j∈Region.ready md B listed,wpOp P B F5 j (λa' cO=>(∀p∈kp dep j S,p.2 cO)/\PZ P md B F5 dep fuel (listed.setIfInBounds j true) (kp dep j S) a' cO) a w
variable {dep:Nat->Nat->Bool}
theorem PZ.a8:∀(fuel:Nat) (B:Array Bool) (S:TK) (a:Act) (w:World),PZ P md ops F5 dep fuel B S a w->wpAny P md ops F5 fuel B a w
 | 0,_,_,_,_,h=>h
 | fuel+1,_,_,_,_,h=>⟨h.1,λj hj=>wpOp_mono (λa' cO h'=>PZ.a8 fuel _ _ a' cO h'.2) (h.2 j hj)⟩
def PZ.less:∀(fuel:Nat) (B:Array Bool) (S S' : TK) (a:Act) (w:World),(∀p∈S',p∈S)->PZ P md ops F5 dep fuel B S a w->PZ P md ops F5 dep fuel B S' a w
 | 0,_,_,_,_,_,_,h=>h
 | fuel+1,_,S,S',_,_,hs,h=>⟨h.1,λj hj=>wpOp_mono (λa' cO h' =>
   have hk:∀p∈kp dep j S',p∈kp dep j S:=λp hp=>by
    unfold kp at *;rw[List.mem_filter] at *;exact⟨hs p hp.1,hp.2⟩
   ⟨λp hp=>h'.1 p (hk p hp),PZ.less fuel _ _ _ a' cO hk h'.2⟩) (h.2 j hj)⟩
def PZ.first{i:Nat}{oi:Oper}{v:Value}{Si:World->Prop}(hi:ops[i]? = some oi)(a7:∀(j:Nat) (o:Oper) cs b,ops[j]? = some o->o.op≠.select cs b)
  (hQ:∀c a w,F5 (.panic c) (a.put oi.dst v) w->F5 (.panic c) a w) (b0:∀j,dep j i=true->UG md ops j i) :
  ∀(fuel:Nat) (B:Array Bool) (S:TK) (a:Act) (w:World),
   Oa md ops B ->
   (∀j oj,ops[j]? = some oj->j≠i->B.getD j true=false->(∀e∈oj.after,Region.binds md e=true->e.on≠i)->oi.apart ops oj=true) ->
   i∈Region.ready md ops B->YieldsIf P ops Si oi v a->Si w->(∀p∈S,p.2 w) ->
   PZ P md ops F5 dep fuel (B.setIfInBounds i true) ((i,Si)::S) (a.put oi.dst v) w->PZ P md ops F5 dep (fuel+1) B S a w:=by
 intro fuel;induction fuel with
 | zero =>
  intro B S a w _ _ hr Y hS hP H;refine⟨λh=>(by rw[h] at hr;cases hr),λj hj=>?_⟩;by_cases a2:j=i
  .subst a2;exact Y.wpOp hi hS ⟨λp hp=>hP p ((List.mem_filter.1 hp).1),H⟩
  .have:=ready_mono hj a2
   rw[H.1] at this;cases this
 | succ fuel ih =>
  intro B S a w b2 M hr Y hS hP H;refine⟨λh=>(by rw[h] at hr;cases hr),λj hj=>?_⟩;by_cases a2:j=i
  .subst a2;exact Y.wpOp hi hS ⟨λp hp=>hP p ((List.mem_filter.1 hp).1),PZ.less _ _ _ _ _ _ (λp hp=>List.mem_cons_of_mem _ ((List.mem_filter.1 hp).1)) H⟩
  .have K:=H.2 j (ready_mono hj a2);obtain⟨a6,oj,a9,a4⟩:=mem_ready.1 hj
   have a5:B.getD i false=true->False:=λK=>by
    have h0:=(mem_ready.1 hr).1;rcases Nat.lt_or_ge i B.size with h' | h'
    .simp[h'] at h0 K;rw[h0] at K;cases K
    .simp[Array.getElem?_eq_none h'] at K
   have b1:∀e∈oj.after,Region.binds md e=true->e.on≠i:=λe he hb b5=>a5 (b5▸a4 e he hb)
   have b8:dep j i=false:=by
    cases hd:dep j i with
    | false=>rfl
    | true=>exact(a5 (b2.dep (b0 j hd) λo ho e he hb=>by rw[a9] at ho;cases ho;exact a4 e he hb)).elim
   have T:=wpOp_putIf a9 (M j oj a9 a2 a6 b1) (λcs b=>a7 i oi cs b hi) (λcs b=>a7 j oj cs b a9) hQ Y K
   have a3 : ∀k ok,ops[k]? = some ok->k≠i->(B.setIfInBounds j true).getD k true=false ->
     (∀e∈ok.after,Region.binds md e=true->e.on≠i)->oi.apart ops ok=true:=λk ok hk b6 b4 b9=>by
    refine M k ok hk b6 ?_ b9;by_cases b3:j=k
    .subst b3;exact a6
    .rw[getD_set_ne true b3] at b4;exact b4
   have b7:kp dep j ((i,Si)::S)=(i,Si)::kp dep j S:=by simp[kp,b8]
   rw[b7] at T;refine wpOp_mono (λa' cO h3=>⟨λp hp=>h3.2.1 p (List.mem_cons_of_mem _ hp),ih (B.setIfInBounds j true) _ a' cO (b2.set hj) a3 (ready_mono hr (Ne.symm a2)) h3.1 (h3.2.1 _ List.mem_cons_self) (λp hp=>h3.2.1 p (List.mem_cons_of_mem _ hp)) ?_⟩) T;rw[Array.setIfInBounds_comm _ _ a2];exact h3.2.2
end any
def dV(n:Nat):List Nat->Array Bool
 | []=>Array.replicate n false
 | i::r=>(dV n r).setIfInBounds i true
def Vd(B:Array Oper):Nat->Nat->Nat->Bool
 | 0,_,_=>false
 | fuel+1,j,i=>match B[j]? with
  | none=>false
  | some o=>o.after.toList.any λe=>Region.binds .any e && (e.on == i || Vd B fuel e.on i)
def tD{B:Array Oper}:∀(fuel j i:Nat),Vd B fuel j i=true->UG .any B j i
 | 0,_,_,h=>by simp[Vd] at h
 | fuel+1,j,i,h=>by
  unfold Vd at h;cases ho:B[j]? with
  | none=>rw[ho] at h;simp at h
  | some o =>
   rw[ho] at h;simp only[List.any_eq_true] at h;obtain⟨e,he,h⟩:=h;have M : e∈o.after:=by simpa using he
   simp only[Bool.and_eq_true,Bool.or_eq_true,beq_iff_eq] at h;rcases h with⟨hb,h|h⟩
   .exact .one ho M hb h
   .exact .more ho M hb (tD fuel _ i h)
inductive K4 where
 | ev (i:Nat)
 | ef (i:Nat)
abbrev YZ(l:List K4):List K4:=.ev 0::.ev 1::.ev 2::.ev 3::l
abbrev Za(l:List K4):List K4:=.ev 0::.ev 1::.ev 2::.ev 3::.ev 4::.ev 5::l
abbrev Zb(l:List K4):List K4:=.ev 0::.ev 1::.ev 2::.ev 3::.ev 4::.ev 5::.ev 6::.ev 7::l
abbrev Zc(l:List K4):List K4:=.ev 0::.ev 1::.ev 2::.ev 3::.ev 4::.ev 5::.ev 6::.ev 7::.ev 8::.ev 9::l
abbrev Zd(l:List K4):List K4:=.ev 0::.ev 1::.ev 2::.ev 3::.ev 4::.ev 5::.ev 6::.ev 7::.ev 8::.ev 9::.ev 10::.ev 11::.ev 12::l
abbrev Ze(l:List K4):List K4:=.ev 0::.ev 1::.ev 2::.ev 3::.ev 4::.ev 5::.ev 6::.ev 7::.ev 8::.ev 9::.ev 10::.ev 11::.ev 12::.ev 13::.ev 14::.ev 15::.ev 16::l
def jt(B:Array Oper)(done:List Nat):List K4->Bool
 | []=>(Region.ready .any B (dV B.size done)).isEmpty
 | .ev i::r=>(Region.ready .any B (dV B.size done)).contains i && Region.free .any B (dV B.size done) i && jt B (i::done) r
 | .ef i::r=>(Region.ready .any B (dV B.size done) == [i]) && jt B (i::done) r
structure PE where
 idx:Nat
 op:Op
 ty:TypeId
 env:Env
 v:Value
def mh(P:Program)(B:List PE)(S:TK):Prop:=∀p∈S,(∀w,p.2 w)\/∃pe∈B,pe.idx=p.1/\∃ρ o,QC pe.env ρ/\o.op=pe.op/\o.type=pe.ty/\∀w,(execOp ρ o).run P w=.ok (.value pe.v) w->p.2 w
def Rt(B:Array Oper)(j i:Nat):Bool:=Vd B B.size j i
class RP (Ξ:F4):Prop where
 no:∀c env L,¬Ξ (.panic c) env L
 out:∀env L,¬Ξ .outgrown env L
instance {n:Env->Η->Prop}{Ξ:F4}[h:RP Ξ]:RP (F4.seq n Ξ):=⟨λc env L=>h.no c env L,λenv L=>h.out env L⟩
instance {A:Nat}{Ξ:F4}[h:RP Ξ]:RP (F4.inBlock A Ξ):=⟨λc env L=>h.no c env L,λenv L=>h.out env L⟩
instance {P:Program}{N:Nat}{rs:List ResultVar}{post:Value->Η->Prop}:RP (Ends P N rs post):=⟨(by
 rintro c env L ⟨h,_⟩;rcases h with h|h
 .cases h
 .cases h),(by
 rintro env L ⟨h,_⟩;rcases h with h|h
 .cases h
 .cases h)⟩
def GP(P:Program)(N:Nat)(B:Array Oper)(done:List Nat)(wk:List K4)(M:List PE)(env:Env)(L:Η)(Ξ:F4):Prop :=
 RP Ξ->jt B done wk=true->Region.noSelect B=true->Oa .any B (dV B.size done) ->
 ∀θ χ a w S,At N env L θ χ a w->mh P M S->(∀p∈S,p.2 w) ->
  PZ P .any B (QK θ χ N Ξ) (Rt B) wk.length (dV B.size done) S a w
def Tf(B:Array Oper):Bool:=B.all λo=>match o.op with
 | .defer _=>false
 | _=>true
def yV{B:Array Oper}(h:Tf B=true){i:Nat}{o:Oper}(hi:B[i]? = some o):∀c,o.op≠.defer c:=by
 intro c hc;have K:=Array.all_eq_true.1 h i (Array.getElem?_eq_some_iff.1 hi).1;rw[(Array.getElem?_eq_some_iff.1 hi).2] at K;simp[hc] at K
def Fy{P:Program}{r:Option Nat}{B:Array Oper}{F5:Exit->Act->World->Prop}(hd:Tf B=true)(hq:¬LetsOut F5){i:Nat}{Ξ K' : Act->World->Prop}{a:Act}{w:World}(hk:∀a w,Ξ a w->K' a w)(h:wpOp P B F5 i Ξ a w):wpOpIn (FW r) 0 P B F5 i K' a w:=by
 have h:=wpOp_mono hk h;unfold wpOp at h;unfold wpOpIn;cases hi:B[i]? with
 | none=>simp only[hi] at h ⊢;exact h
 | some o =>
  simp only[hi] at h ⊢;split
  .rename_i hw;simp only[hw,if_true] at h;rcases h with h|h
   .exact mu (yV hd hi) h
   .exact hD h.2 hq
  .rename_i hw;simp only[hw] at h;exact⟨λ_ _=>trivial,h⟩
def pg{P:Program}{r:Option Nat}{md:Region.Mode}{M:Array Oper}{F5:Exit->Act->World->Prop}(hd:Tf M=true)(hq:¬LetsOut F5):∀(fuel:Nat) (B:Array Bool) (a:Act) (w:World),wpAny P md M F5 fuel B a w->wpAnyIn (FW r) 0 P md M F5 fuel B a w
 | 0,_,_,_,h=>h
 | fuel+1,_,_,_,h=>⟨h.1,λi hi=>Fy hd hq (λa w=>pg hd hq fuel _ a w) (h.2 i hi)⟩
def K4.idx:K4->Nat
 | .ev i=>i
 | .ef i=>i
def δ(P:Program)(N:Nat)(B:Array Oper)(done:List Nat)(s:K4)(wk:List K4)(a2:Option Tmp)(op:Op)(ty:TypeId)(M:List PE)(env:Env)(L:Η)(Ξ:F4):Prop :=
 ∀pos af g,B[s.idx]? = some ⟨a2,op,ty,pos,af,g⟩->(∀a,Ol N env a->Region.wanted ⟨a2,op,ty,pos,af,g⟩ (yielded B a.tmps)=true)->GP P N B done (s::wk) M env L Ξ
def ms(P:Program)(N:Nat)(a2:Array Oper)(done:List Nat)(i:Nat)(wk:List K4)(M acc:List PE)(env:Env)(L:Η)(Ξ:F4):Prop :=
 ∃B:List PE,(∀pe∈M,Rt a2 i pe.idx=true\/(pe∈B/\Ev P L pe.env pe.op pe.ty pe.v))/\(∀pe∈acc,pe∈B)/\GP P N a2 (i::done) wk B env L Ξ
section gp
variable {P:Program}{N:Nat}{ops:Array Oper}{done:List Nat}{wk:List K4}{E8:List PE}{env:Env}{L:Η}{Ξ:F4}
theorem Α.g9{A:Nat}{l:List Oper}(wk:List K4)[hK:RP Ξ](hm:P.follows .mixedOrders=true)(hp:(jt l.toArray [] wk && (wk.length == l.toArray.size) && Region.noSelect l.toArray && Tf l.toArray)=true)(h:GP P N l.toArray [] wk [] env L Ξ):Α P N (.region A l.toArray true) env L Ξ:=by
 intro r θ χ a w hr i;simp only[Bool.and_eq_true,beq_iff_eq] at hp;obtain⟨⟨⟨K,T⟩,h3⟩,h4⟩:=hp;refine wpIn_region_any hm (pg h4 (by rintro⟨a',cO,env,L,_,h⟩;exact hK.out env L h) _ _ _ _ (PZ.a8 (dep:=Rt l.toArray) _ _ [] _ _ ?_));obtain⟨ε,ea,B,s⟩:=i;have:=h hK K h3 (Oa.a8 _) θ χ a { w with drawn:=w.drawn+1 } [] ⟨ε,ea,B,s.drew⟩ (by intro p hp;cases hp) (by simp)
 rw[T] at this;exact this
def GP.nil(h:Ξ .normal env L):GP P N ops done [] E8 env L Ξ:=by
 intro _ hp _ _ θ χ a w S i _ _;simp only[jt,List.isEmpty_iff] at hp;exact⟨hp,env,L,i,h⟩
def Av{θ:Th}{R:Η}(hK:RP Ξ)(c:List PanicEntry)(a:Act)(w:World):¬QK θ R N Ξ (.panic c) a w:=λ⟨env,L,_,h⟩=>hK.no c env L h
theorem GP.c7{i Μ:Nat}{op:Op}{ty:TypeId}{pos:String}{af:Array Edge}{g:Option (Nat×Bool)}{v:Value}{B : List PE}(hi:ops[i]? = some ⟨some Μ,op,ty,pos,af,g⟩)(hd:Μ<N)
  (Y:∀θ R a w,Ol N env a->Sat θ (L++R) w->∃Si,YieldsIf P ops Si ⟨some Μ,op,ty,pos,af,g⟩ v a/\Si w/\∀S,mh P E8 S->mh P B ((i,Si)::S))
  (h:GP P N ops (i::done) wk B ((Μ,v)::env) L Ξ):GP P N ops done (.ev i::wk) E8 env L Ξ:=by
 intro hK hp hs a2 θ χ a w S i0 a6 a3;simp only[jt,Bool.and_eq_true,List.contains_iff_mem] at hp;obtain⟨⟨K,T⟩,h3⟩:=hp;obtain⟨ε,ea,a5,s⟩:=i0;obtain⟨Si,a7,a4,a9⟩:=Y θ _ a w ea s
 have M:∀p∈(i,Si)::S,p.2 w:=λp hp=>by
  rcases Nj hp with rfl|hp
  .exact a4
  .exact a3 p hp
 refine PZ.first hi (Region.noSelect_spec hs) (λc a w q=>(Av hK c _ w q).elim) (λj hj=>tD _ j i hj) _ _ S a w a2 (Region.free_spec hi T) K a7 a4 a3 ?_;exact h hK h3 hs (a2.set K) θ χ (a.put (some Μ) v) w _ ⟨ε,ea.put hd v,by rw[T4];exact a5,s⟩ (a9 S a6) M
def δ.M8{i Μ:Nat}{op:Op}{ty:TypeId}{v:Value}(he:Ev P [] env op ty v)(hd:Μ<N)(h:GP P N ops (i::done) wk E8 ((Μ,v)::env) L Ξ):δ P N ops done (.ev i) wk (some Μ) op ty E8 env L Ξ:=by
 intro pos af g hi hw;refine GP.c7 hi hd (λθ R a w ea s=>⟨λ_=>True,.inl ⟨hw a ea,?_⟩,trivial,λS hS p hp=>?_⟩) h
 .intro cO _;exact he ⟨cO.tape,cO.os,cO.output,0⟩ [] a.eval cO _ ea.Pk ⟨⟨rfl,rfl,rfl,Nat.zero_le _⟩,Hp.emp,Hp.emp,Hp.c7 _,Hp.a8 _,Hp.a8 _,trivial⟩ rfl rfl
 .rcases Nj hp with rfl|hp
  .exact .inl λ_=>trivial
  .exact hS p hp
def δ.Ob{i Μ:Nat}{op:Op}{ty:TypeId}{v:Value}(he:Ev P L env op ty v)(hd:Μ<N)(h:GP P N ops (i::done) wk (⟨i,op,ty,env,v⟩::E8) ((Μ,v)::env) L Ξ):δ P N ops done (.ev i) wk (some Μ) op ty E8 env L Ξ:=by
 intro pos af g hi hw;refine GP.c7 hi hd (λθ R a w ea s=>⟨λcO=>(execOp a.eval ⟨some Μ,op,ty,pos,af,g⟩).run P cO = .ok (.value v) cO,.inl ⟨hw a ea,λcO h=>h⟩,he θ R a.eval w _ ea.Pk s rfl rfl,λS hS p hp=>?_⟩) h;rcases Nj hp with rfl|hp
 .exact .inr ⟨_,List.mem_cons_self,rfl,a.eval,_,ea.Pk,rfl,rfl,λw h=>h⟩
 .rcases hS p hp with h|⟨pe,K,T⟩
  .exact .inl h
  .exact .inr ⟨pe,List.mem_cons_of_mem _ K,T⟩
def GP.c8{i Μ:Nat}{op:Op}{ty:TypeId}{pos:String}{af:Array Edge}{g:Option (Nat×Bool)}(hi:ops[i]? = some ⟨some Μ,op,ty,pos,af,g⟩)(hd:Μ<N)(hw:∀a,Ol N env a->Region.wanted ⟨some Μ,op,ty,pos,af,g⟩ (yielded ops a.tmps)=false)
  (h:GP P N ops (i::done) wk E8 ((Μ,undef)::env) L Ξ):GP P N ops done (.ev i::wk) E8 env L Ξ:=by
 refine GP.c7 hi hd (λθ R a w ea s=>⟨λ_=>True,.inr ⟨hw a ea,rfl⟩,trivial,λS hS p hp=>?_⟩) h;rcases Nj hp with rfl|hp
 .exact .inl λ_=>trivial
 .exact hS p hp
def ms.nil{i:Nat}{acc:List PE}(h:GP P N ops (i::done) wk acc env L Ξ):ms P N ops done i wk [] acc env L Ξ:=⟨acc,(by intro pe h;cases h),λ_ h=>h,h⟩
def ms.drop{i:Nat}{pe:PE}{ts acc:List PE}(hd:Rt ops i pe.idx=true)(h:ms P N ops done i wk ts acc env L Ξ):ms P N ops done i wk (pe::ts) acc env L Ξ:=by
 obtain⟨B,K,T,h3⟩:=h;refine⟨B,λp hp=>?_,T,h3⟩;rcases Nj hp with rfl|hp
 .exact .inl hd
 .exact K p hp
def ms.keep{i k:Nat}{op:Op}{ty:TypeId}{B : Env}{v:Value}{ts acc:List PE}(hd:Ev P L B op ty v)(h:ms P N ops done i wk ts (⟨k,op,ty,B,v⟩::acc) env L Ξ):ms P N ops done i wk (⟨k,op,ty,B,v⟩::ts) acc env L Ξ:=by
 obtain⟨M,K,T,h3⟩:=h;refine⟨M,λp hp=>?_,λp hp=>T p (List.mem_cons_of_mem _ hp),h3⟩;rcases Nj hp with rfl|hp
 .exact .inr ⟨T _ List.mem_cons_self,hd⟩
 .exact K p hp
def ms.step{i:Nat}(h:ms P N ops done i wk E8 [] env L Ξ){θ:Th}{R:Η}{a:Act}{w:World}{S:TK}(hK:RP Ξ)(h3:jt ops (i::done) wk=true)(hs:Region.noSelect ops=true)(a3:Oa .any ops (dV ops.size (i::done)))(i0:At N env L θ R a w)(a7:mh P E8 S) :
  (∀p∈kp (Rt ops) i S,p.2 w)/\PZ P .any ops (QK θ R N Ξ) (Rt ops) wk.length (dV ops.size (i::done)) (kp (Rt ops) i S) a w:=by
 obtain⟨M,k1,_,k3⟩:=h;obtain⟨ε,ea,a5,s⟩:=i0
 have B:∀p∈kp (Rt ops) i S,p.2 w/\((∀w,p.2 w)\/∃pe∈M,pe.idx=p.1/\∃ρ o,QC pe.env ρ/\o.op=pe.op/\o.type=pe.ty/\∀w,(execOp ρ o).run P w=.ok (.value pe.v) w->p.2 w):=by
  intro p hp;obtain⟨a6,a2⟩:=List.mem_filter.1 hp;rcases a7 p a6 with h|⟨pe,K,T,ρ,o,h4,h5,h6,h7⟩
  .exact⟨h w,.inl h⟩
  .rcases k1 pe K with hd|⟨hk,a4⟩
   .rw[T] at hd;rw[hd] at a2;simp at a2
   .exact⟨h7 w (a4 θ _ ρ w o h4 s h5 h6),.inr ⟨pe,hk,T,ρ,o,h4,h5,h6,h7⟩⟩
 exact⟨λp hp=>(B p hp).1,k3 hK h3 hs a3 θ R a w _ ⟨ε,ea,a5,s⟩ (λp hp=>(B p hp).2) (λp hp=>(B p hp).1)⟩
def δ.ef{i Μ:Nat}{op:Op}{ty:TypeId}{post:Value->Η->Prop}(he:Ef P L env op ty post)(hd:Μ<N)(h:∀v Γ,post v Γ->ms P N ops done i wk E8 [] ((Μ,v)::env) Γ Ξ):δ P N ops done (.ef i) wk (some Μ) op ty E8 env L Ξ:=by
 intro pos af g hi hw hK hp hs M θ χ a w S i0 a6 a7;obtain⟨ε,ea,a5,s⟩:=i0;simp only[jt,Bool.and_eq_true,beq_iff_eq] at hp;obtain⟨K,h3⟩:=hp;have a3:i∈Region.ready .any ops (dV ops.size done):=by rw[K];exact List.mem_singleton.2 rfl
 refine⟨λh0=>(by rw[h0] at K;cases K),λj hj=>?_⟩;rw[K] at hj;have a4:j=i:=F6 hj;subst a4;have a2 : ops[j]? = some ⟨some Μ,op,ty,pos,af,g⟩:=hi;unfold wpOp;simp only[a2,hw a ea,if_true];refine .inl (he θ _ a w _ _ _ ea.Pk s rfl rfl λv Γ cO B s'=>?_);exact(h v Γ B).step hK h3 hs (M.set a3) ⟨ε,ea.put hd v,by rw[T4];exact a5,s'⟩ a6
def δ.NH{i:Nat}{op:Op}{ty:TypeId}{post:Value->Η->Prop}(he:Ef P L env op ty post)(h:∀v Γ,post v Γ->ms P N ops done i wk E8 [] env Γ Ξ):δ P N ops done (.ef i) wk none op ty E8 env L Ξ:=by
 intro pos af g hi hw hK hp hs M θ χ a w S i0 a6 a7;obtain⟨ε,ea,a5,s⟩:=i0;simp only[jt,Bool.and_eq_true,beq_iff_eq] at hp;obtain⟨K,h3⟩:=hp;have a3:i∈Region.ready .any ops (dV ops.size done):=by rw[K];exact List.mem_singleton.2 rfl
 refine⟨λh0=>(by rw[h0] at K;cases K),λj hj=>?_⟩;rw[K] at hj;have a4:j=i:=F6 hj;subst a4;have a2 : ops[j]? = some ⟨none,op,ty,pos,af,g⟩:=hi;unfold wpOp;simp only[a2,hw a ea,if_true];refine .inl (he θ _ a w _ _ _ ea.Pk s rfl rfl λv Γ cO B s'=>?_);exact(h v Γ B).step hK h3 hs (M.set a3) ⟨ε,ea,a5,s'⟩ a6
theorem GP.a8{i Μ:Nat}{op:Op}{ty:TypeId}{pos:String}{af:Array Edge}{g:Option (Nat×Bool)}(hi:ops[i]? = some ⟨some Μ,op,ty,pos,af,g⟩)(hd:Μ<N)(hw:∀a,Ol N env a->Region.wanted ⟨some Μ,op,ty,pos,af,g⟩ (yielded ops a.tmps)=false)
  (h:GP P N ops (i::done) wk E8 ((Μ,undef)::env) L Ξ):GP P N ops done (.ef i::wk) E8 env L Ξ:=by
 intro hK hp hs M θ χ a w S i0 a4 B;simp only[jt,Bool.and_eq_true,beq_iff_eq] at hp;obtain⟨K,h3⟩:=hp;have ea:=i0.T3;have a2:i∈Region.ready .any ops (dV ops.size done):=by rw[K];exact List.mem_singleton.2 rfl
 refine⟨λh0=>(by rw[h0] at K;cases K),λj hj=>?_⟩;rw[K] at hj;have a3:j=i:=F6 hj;subst a3;unfold wpOp;simp only[hi,hw a ea,Bool.false_eq_true,if_false];exact⟨λp hp=>B p (List.mem_filter.1 hp).1,h hK h3 hs (M.set a2) θ χ _ w _ (i0.put hd undef) (λp hp=>a4 p (List.mem_filter.1 hp).1) (λp hp=>B p (List.mem_filter.1 hp).1)⟩
def GP.go{s:K4}{B:Option Tmp}{op:Op}{ty:TypeId}{pos:String}{af:Array Edge}(hi:ops[s.idx]? = some ⟨B,op,ty,pos,af,none⟩)(h:δ P N ops done s wk B op ty E8 env L Ξ):GP P N ops done (s::wk) E8 env L Ξ :=
 h pos af none hi λ_ _=>rfl
def pf{j t:Nat}{v:Value}(hj:(ops[j]?).bind (·.dst)=some t)(ht:env.lookup t=some v){a:Act}(ea:Ol N env a):yielded ops a.tmps j=match v with | .bool b=>some b|_=>none:=by
 unfold yielded;rw[hj];simp only[Option.bind_some,ea.at_ t _ ht];cases v<;>rfl
def GP.VM{t:Nat}{v:Value}(ht:env.lookup t=some v)(h:GP P N ops done wk E8 ((t,v)::env) L Ξ):GP P N ops done wk E8 env L Ξ :=
 λhK hp hs B θ R a w S i M a2=>h hK hp hs B θ R a w S (i.less (OL.cons ht (OL.refl _)) (F.refl _)) M a2
def GP.guard{s:K4}{Μ:Nat}{op:Op}{ty:TypeId}{pos:String}{af:Array Edge}{j t:Nat}{b c:Bool}(hi:ops[s.idx]? = some ⟨some Μ,op,ty,pos,af,some (j,b)⟩)(hj:(ops[j]?).bind (·.dst)=some t)(ht:env.lookup t=some (.bool c))(hd:Μ<N)
  (Y:c=b->δ P N ops done s wk (some Μ) op ty E8 env L Ξ) (hn:c≠b->GP P N ops (s.idx::done) wk E8 ((Μ,undef)::env) L Ξ):GP P N ops done (s::wk) E8 env L Ξ:=by
 by_cases B:c=b
 .subst B;exact Y rfl pos af _ hi λa ea=>by simp[Region.wanted,pf hj ht ea]
 .have hw:∀a,Ol N env a->Region.wanted ⟨some Μ,op,ty,pos,af,some (j,b)⟩ (yielded ops a.tmps)=false:=λa ea=>by
   simp[Region.wanted,pf hj ht ea,B]
  cases s with
  | ev i=>exact GP.c8 hi hd hw (hn B)
  | ef i=>exact GP.a8 hi hd hw (hn B)
def GP.c9{s:K4}{Μ:Nat}{op:Op}{ty:TypeId}{pos:String}{af:Array Edge}{j t:Nat}{b:Bool}(hi:ops[s.idx]? = some ⟨some Μ,op,ty,pos,af,some (j,b)⟩)(hj:(ops[j]?).bind (·.dst)=some t)(ht:env.lookup t=some undef)(hd:Μ<N)
  (hn:GP P N ops (s.idx::done) wk E8 ((Μ,undef)::env) L Ξ):GP P N ops done (s::wk) E8 env L Ξ:=by
 have hw:∀a,Ol N env a->Region.wanted ⟨some Μ,op,ty,pos,af,some (j,b)⟩ (yielded ops a.tmps)=false:=λa ea=>by
  simp[Region.wanted,pf hj ht ea,undef]
 cases s with
 | ev i=>exact GP.c8 hi hd hw hn
 | ef i=>exact GP.a8 hi hd hw hn
def GP.d7{s:K4}{Μ:Nat}{op:Op}{ty:TypeId}{pos:String}{af:Array Edge}{j t:Nat}{c:Bool}(hi:ops[s.idx]? = some ⟨some Μ,op,ty,pos,af,some (j,true)⟩)(hj:(ops[j]?).bind (·.dst)=some t)(ht:env.lookup t=some (.bool c))(hd:Μ<N)
  (h:GB c (δ P N ops done s wk (some Μ) op ty E8 env L Ξ) (GP P N ops done (s::wk) E8 ((t,.bool true)::env) L Ξ) (GP P N ops (s.idx::done) wk E8 ((Μ,undef)::env) L Ξ) (GP P N ops done (s::wk) E8 ((t,.bool false)::env) L Ξ)):GP P N ops done (s::wk) E8 env L Ξ:=by
 cases c with
 | true =>
  rcases h.1 rfl with h|h
  .exact GP.guard hi hj ht hd (λ_=>h) (λh=>hD rfl h)
  .exact h.VM ht
 | false =>
  rcases h.2 rfl with h|h
  .exact GP.guard hi hj ht hd (λh=>by cases h) (λ_=>h)
  .exact h.VM ht
def GP.d8{s:K4}{Μ:Nat}{op:Op}{ty:TypeId}{pos:String}{af:Array Edge}{j t:Nat}{c:Bool}(hi:ops[s.idx]? = some ⟨some Μ,op,ty,pos,af,some (j,false)⟩)(hj:(ops[j]?).bind (·.dst)=some t)(ht:env.lookup t=some (.bool c))(hd:Μ<N)
  (h:GB c (GP P N ops (s.idx::done) wk E8 ((Μ,undef)::env) L Ξ) (GP P N ops done (s::wk) E8 ((t,.bool true)::env) L Ξ) (δ P N ops done s wk (some Μ) op ty E8 env L Ξ) (GP P N ops done (s::wk) E8 ((t,.bool false)::env) L Ξ)):GP P N ops done (s::wk) E8 env L Ξ:=by
 cases c with
 | true =>
  rcases h.1 rfl with h|h
  .exact GP.guard hi hj ht hd (λh=>by cases h) (λ_=>h)
  .exact h.VM ht
 | false =>
  rcases h.2 rfl with h|h
  .exact GP.guard hi hj ht hd (λ_=>h) (λh=>hD rfl h)
  .exact h.VM ht
def GP.Rs{B : Env}(he:OL env B)(h:GP P N ops done wk E8 B L Ξ):GP P N ops done wk E8 env L Ξ :=
 λhK hp hs M θ R a w S i a2 a3=>h hK hp hs M θ R a w S (i.less he (F.refl _)) a2 a3
end gp
end
section
section ops
variable {P:Program}{N:Nat}{env:Env}{L:Η}{Ξ:F4}{ty:TypeId}
def rf(pl:List (Nat×Nat)):List (Nat×Value)->τ->Option (τ)
 | [],z=>some z
 | (i,v)::r,z=>match pl[i]?,v.oneCell' with
  | some (off,1),true=>pZ z off v λz'=>rf pl r z'
  | _,_=>none
def uN(pl:List (Nat×Nat)):∀(vs:List (Nat×Value)) (z cs:τ),rf pl vs z=some cs->Instr.fill (λi=>pl.toArray[i]?) z.toArray vs=some cs.toArray
 | [],z,cs,h=>by simp[rf] at h;simp[Instr.fill,h]
 | (i,v)::r,z,cs,h=>by
  simp only[rf] at h;split at h
  .rename_i off K T;obtain⟨h3,h4⟩:=tH _ _ _ _ _ h;have ih:=uN pl r _ _ h4;have B:v.cells=#[v]:=by cases v<;>first|rfl|cases T
   simp only[Instr.fill,List.getElem?_toArray,K,B];have:¬(off+1>z.length):=by omega
   simp[this] at ih ⊢;exact ih
  .cases h
def oy{P:Program}{w:World}:∀(fs:List Field) (pl:List (Nat×Nat)),fs.map (λfd=>(fd.offset,(P.info? fd.type).map (·.size)))=pl.map (λp=>(p.1,some p.2)) ->
  (fs.mapM λ (f:Field)=>do pure (f.offset,<-sizeOf f.type)).run P w=.ok pl w
 | [],pl,h=>by
  have:pl=[]:=by simpa using h.symm
  simp[this]
 | f::fs,[],h=>by simp at h
 | f::fs,p::pl,h=>by
  simp only[List.map_cons,List.cons.injEq,Prod.mk.injEq] at h;obtain⟨⟨K,T⟩,h3⟩:=h;cases hi:P.info? f.type with
  | none=>rw[hi] at T;cases T
  | some i =>
   rw[hi] at T;simp at T;have ih:=oy (P:=P) (w:=w) fs pl h3;simp at ih;simp[List.mapM_cons,sizeOf,typeInfo,hi,T];simp[sizeOf,typeInfo] at ih;simp[ih,K]
def Ev.build{t:TypeId}{ps:Array (Nat×Operand)}{vs:List (Nat×Value)}{pl:List (Nat×Nat)}{z cs:τ}[hs:OW P t pl][hz:NC P t z](hv:kO env ps.toList=some vs)(hc:rf pl vs z=some cs):Ev P L env (.build t ps) ty (.agg cs.toArray) :=
 Ev.mk (λθ R ρ w ea s _ _ _ _=>by
  obtain⟨z0,K,T⟩:=hz.run w;have he:=hs.eq;cases hu:P.underlying t with
  | none=>rw[hu] at he;cases he
  | some Wj =>
   rw[hu] at he;cases Wj<;>simp[sP] at he;rename_i fs;have hm:=oy (P:=P) (w:=w) fs.toList pl (by simpa using he)
   have B:ps.map (λp=>(p.1,ρ p.2))=vs.toArray:=by
    apply Array.ext';simpa using ea.pairs ps.toList vs hv
   have M : (fs.mapM λ (f:Field)=>do pure (f.offset,<-sizeOf f.type)).run P w=.ok pl.toArray w:=by
    have e:fs=fs.toList.toArray:=by simp
    rw[e,List.mapM_toArray];simp only[Sem.run_map,hm,Result.andThen_ok]
   have hf:=uN pl vs z cs hc;simp only[execOp,B,Instr.build,Sem.run_bind,K,Result.andThen_ok,run_underlying hu,M,T];simp only[hf];simp)
def VN:τ->τ->(τ->Option (τ))->Option (τ)
 | [],r,k=>k r
 | c::l,r,k=>VN l r λx=>k (c::x)
def T6(sz:Nat):List (Nat×Value)->Nat->(τ->Option (τ))->Option (τ)
 | [],_,k=>k []
 | (j,.agg c)::r,i,k=>match Nat.beq j i,Nat.beq c.size sz with
  | true,true=>T6 sz r (i+1) λx=>VN c.toList x k
  | _,_=>none
 | (j,v)::r,i,k=>match Nat.beq j i,Nat.beq 1 sz with
  | true,true=>T6 sz r (i+1) λx=>k (v::x)
  | _,_=>none
def Da:∀(a r:τ) (k:τ->Option (τ)),VN a r k=k (a++r)
 | [],_,_=>rfl
 | c::l,r,k=>by simp[VN,Da l r]
def CF(sz:Nat):∀(vs:List (Nat×Value)) (i:Nat) (k:τ->Option (τ)) (r:τ),T6 sz vs i k=some r ->
  (∀p∈vs,p.2.cells.size=sz)/\vs.map (·.1)=List.range' i vs.length/\k (vs.flatMap λp=>p.2.cells.toList)=some r
 | [],_,k,r,h=>by simpa [T6] using h
 | (j,v)::vs,i,k,r,h=>by
  have key:∀(h' : (match Nat.beq j i,Nat.beq v.cells.size sz with|true,true=>T6 sz vs (i+1) (λx=>k (v.cells.toList++x))|_,_=>none)=some r),
    (∀p∈(j,v)::vs,p.2.cells.size=sz)/\((j,v)::vs).map (·.1)=List.range' i ((j,v)::vs).length/\k (((j,v)::vs).flatMap λp=>p.2.cells.toList)=some r:=by
   intro h';split at h'
   .rename_i K T;obtain⟨M,a2,a3⟩:=CF sz vs (i+1) _ r h';have e1:j=i:=Nat.eq_of_beq_eq_true K;have e2:v.cells.size=sz:=Nat.eq_of_beq_eq_true T;refine⟨?_,?_,?_⟩
    .intro p hp;rcases Nj hp with rfl|hp
     .exact e2
     .exact M p hp
    .simp[e1,List.range'_succ,a2]
    .simpa using a3
   .cases h'
  apply key;cases v<;>first|(simpa [T6,Da,Value.cells] using h)
def uI:∀(l:τ) (off k:Nat) (acc:τ),off+k+l.length<=acc.length ->
  ((l.zipIdx k).foldl (λ (cs:Array Value) (p:Value×Nat)=>cs.setIfInBounds (off+p.2) p.1) acc.toArray)=(acc.take (off+k)++l++acc.drop (off+k+l.length)).toArray
 | [],off,k,acc,h=>by simp
 | v::l,off,k,acc,h=>by
  simp only[List.zipIdx_cons,List.foldl_cons,List.setIfInBounds_toArray];rw[uI l off (k+1) _ (by simp at h ⊢;omega)];have B:off+k<acc.length:=by simp at h;omega
  congr 1
  have e1:(acc.set (off+k) v).take (off+(k+1))=acc.take (off+k)++[v]:=by
   rw[show off+(k+1)=off+k+1 by omega,List.take_succ_eq_append_getElem (by simpa using B),List.take_set_of_le (Nat.le_refl _)];simp
  have e2:(acc.set (off+k) v).drop (off+(k+1)+l.length)=acc.drop (off+k+(l.length+1)):=by
   rw[List.drop_set_of_lt (by omega)];congr 1;omega
  rw[e1,e2];simp
def zR(sz:Nat):∀(vs:List (Nat×Value)) (i:Nat) (acc:τ),(∀p∈vs,p.2.cells.size=sz)->vs.map (·.1)=List.range' i vs.length->acc.length=(i+vs.length)*sz ->
  Instr.fill (λi=>some (i*sz,sz)) acc.toArray vs=some (acc.take (i*sz)++vs.flatMap λp=>p.2.cells.toList).toArray
 | [],i,acc,_,_,h=>by
  have:acc.take (i*sz)=acc:=List.take_of_length_le (by simp at h;omega);simp[Instr.fill,this]
 | (j,v)::vs,i,acc,K,T,h3=>by
  simp only[List.map_cons,List.length_cons,List.range'_succ,List.cons.injEq] at T;obtain⟨rfl,T⟩:=T;have hv:=K (j,v) List.mem_cons_self;simp only at hv
  have M:j*sz+sz<=acc.length:=by
   rw[h3];have h4:(j+1)*sz<=(j+((j,v)::vs).length)*sz:=Nat.mul_le_mul_right _ (by simp);have h5:=Nat.add_mul j 1 sz;omega
  simp only[Instr.fill,hv,ne_eq,not_true_eq_false,List.size_toArray];have a2:¬(j*sz+sz>acc.length):=by omega
  simp only[decide_false,Bool.false_or,gt_iff_lt,decide_eq_true_eq];rw[Ν (by omega)]
  have B:(v.cells.zipIdx.foldl (λcs x=>match x with|(c,k)=>cs.setIfInBounds (j*sz+k) c) acc.toArray)=(acc.take (j*sz)++v.cells.toList++acc.drop (j*sz+sz)).toArray:=by
   have:=uI v.cells.toList (j*sz) 0 acc (by simp[hv];omega)
   rw[<-Array.foldl_toList];simp only[Array.toList_zipIdx];simp only[Nat.add_zero,Array.length_toList,hv] at this;exact this
  rw[B]
  rw[zR sz vs (j+1) _ (λp hp=>K p (List.mem_cons_of_mem _ hp)) T (by
   simp only[List.length_append,List.length_take,Array.length_toList,hv,List.length_drop];simp only[List.length_cons] at h3;have e:(j+1+vs.length)*sz=(j+(vs.length+1))*sz:=by congr 1;omega
   rw[e,<-h3];omega)]
  have e1:(acc.take (j*sz)++v.cells.toList++acc.drop (j*sz+sz)).take ((j+1)*sz)=acc.take (j*sz)++v.cells.toList:=by
   rw[List.take_append_of_le_length (by simp[hv,Nat.add_mul];omega)];apply List.take_of_length_le;simp[hv,Nat.add_mul];omega
  rw[e1];simp
def Ef.lit{t:TypeId}{len:Nat}{ps:Array (Nat×Operand)}{vs:List (Nat×Value)}{η sz bb:Nat}{z cs:τ}[ht:M7 P t η sz bb z](hv:kO env ps.toList=some vs)(hn:vs.length=len)(U:len*sz<=16777216)(hc:T6 sz vs 0 some=some cs)
  : Ef P L env (.buildSlice t len ps) ty (λv Γ=>∃b,v=.slice (some ⟨b,0,none⟩) len len/\Γ = obj b η cs::L):=by
 obtain⟨M,a2,a3⟩:=CF sz vs 0 some cs hc;refine Ef.buildSlice hv U ?_;simp only[sV,Option.map_eq_some_iff];have e:(Array.range (len*sz)).map (z.toArray[· % z.length]!)=((List.range (len*sz)).map (z.toArray[· % z.length]!)).toArray:=by apply Array.ext';simp
 rw[e,zR sz vs 0 _ M (by rw[a2]) (by simp[hn])];simp only[Option.some.injEq] at a3;exact⟨_,rfl,by simp[a3]⟩
def N2(ad:OA)(cap sz k:Nat):OA:=if cap=k then ad else ad.map (·.add (k*sz))
def Ev.p8{t:TypeId}{x hi:Operand}{ad:OA}{n c η sz bb:Nat}{z:τ}{k:IntKind}{j:Int}[ht:M7 P t η sz bb z](O:cq env x=some (.slice ad n c))(hh:cq env hi=some (.int k j))(h0:0<=j)(K:j<=c):Ev P L env (.slice t x none (some hi) none) ty (.slice ad j.toNat c) :=
 Ev.mk (λ_ _ _ w ea _ _ _ _ _=>by
  obtain⟨ii,z0,i1,i2,i3,i4,i5⟩:=ht.Β;simp[execOp,aJ ea O,aJ ea hh,Instr.sliceAt,Instr.slice,run_underlying ht.under,Instr.sliceBounds,Instr.sliceBound,asIntOf,h0,K,sizeOf,typeInfo,i1];intro;cases ad<;>simp[Addr.add])
def Ev.n7{t:TypeId}{x lo:Operand}{ad:OA}{n c η sz bb:Nat}{z:τ}{k:IntKind}{j:Int}[ht:M7 P t η sz bb z](O:cq env x=some (.slice ad n c))(U:cq env lo=some (.int k j))(h0:0<=j)(K:j<=n):Ev P L env (.slice t x (some lo) none none) ty (.slice (N2 ad c sz j.toNat) (n - j.toNat) (c - j.toNat)) :=
 Ev.mk (λ_ _ _ w ea _ _ _ _ _=>by
  obtain⟨ii,z0,i1,i2,i3,i4,i5⟩:=ht.Β;simp[execOp,aJ ea O,aJ ea U,Instr.sliceAt,Instr.slice,run_underlying ht.under,Instr.sliceBounds,Instr.sliceBound,asIntOf,h0,K,sizeOf,typeInfo,i1,i4,N2])
def Ev.o9{t:TypeId}{x lo hi:Operand}{ad:OA}{n c η sz bb:Nat}{z:τ}{k k' : IntKind}{i j:Int}[ht:M7 P t η sz bb z](O:cq env x=some (.slice ad n c))(U:cq env lo=some (.int k i))(hh:cq env hi=some (.int k' j))(h0:0<=i)(K:i<=j)(T:j<=c):Ev P L env (.slice t x (some lo) (some hi) none) ty (.slice (N2 ad c sz i.toNat) (j.toNat - i.toNat) (c - i.toNat)) :=
 Ev.mk (λ_ _ _ w ea _ _ _ _ _=>by
  obtain⟨ii,z0,i1,i2,i3,i4,i5⟩:=ht.Β;have hj:0<=j:=by omega
  have M:i<=(j.toNat:Int):=by omega
  have B : i<=max j 0:=by omega
  simp[execOp,aJ ea O,aJ ea U,aJ ea hh,Instr.sliceAt,Instr.slice,run_underlying ht.under,Instr.sliceBounds,Instr.sliceBound,asIntOf,h0,hj,T,B,sizeOf,typeInfo,i1,i4,N2])
def Sx.drop{α:Type}{w:World}{Ε:α->τ}{sz:Nat}{ad:OA}{I:List α}(h:Sx w Ε sz ad I){cap:Nat}(hc:I.length<=cap)(k:Nat):Sx w Ε sz (N2 ad cap sz k) (I.drop k):=by
 obtain⟨K,T⟩:=h;refine⟨λx O=>K x (List.mem_of_mem_drop O),?_⟩;by_cases hk:I.length<=k
 .exact .inl (List.drop_eq_nil_of_le hk)
 .rcases T with T|⟨a,rfl,h3⟩
  .subst T;simp at hk
  .refine .inr ⟨a.add (k*sz),?_,?_⟩
   .have:¬cap=k:=by omega
    simp[N2,this]
   .intro i v hv
    have e:(a.add (k*sz)).add i=a.add (k*sz+i):=by
     unfold Addr.add;(repeat' split)<;>first|rfl|omega|(simp;omega)|(simp_all;done)
    rw[e];apply h3;have B:I.flatMap Ε=(I.take k).flatMap Ε++(I.drop k).flatMap Ε:=by rw[<-List.flatMap_append,List.take_append_drop]
    have M:((I.take k).flatMap Ε).length=k*sz:=by
     rw[db (λx O=>K x (List.mem_of_mem_take O)),List.length_take,Nat.min_eq_left (by omega)]
    rw[B,List.getElem?_append_right (by omega),M];rw[show k*sz+i - k*sz=i by omega];exact hv
def Sx.take{α:Type}{w:World}{Ε:α->τ}{sz:Nat}{ad:OA}{I:List α}(h:Sx w Ε sz ad I)(k:Nat):Sx w Ε sz ad (I.take k):=by
 obtain⟨K,T⟩:=h;refine⟨λx O=>K x (List.mem_of_mem_take O),?_⟩;rcases T with T|⟨a,rfl,h3⟩
 .exact .inl (by simp[T])
 .refine .inr ⟨a,rfl,λi v hv=>h3 i v ?_⟩;have B:I.flatMap Ε=(I.take k).flatMap Ε++(I.drop k).flatMap Ε:=by rw[<-List.flatMap_append,List.take_append_drop]
  rw[B,List.getElem?_append_left (List.getElem?_eq_some_iff.1 hv).1];exact hv
theorem F2.drop{α:Type}{Ε:α->τ}{sz:Nat}{ad:OA}{I:List α}(h:F2 L ad α Ε sz I){cap:Nat}(hc:I.length<=cap)(k:Nat):F2 L (N2 ad cap sz k) α Ε sz (I.drop k):=⟨λθ R w s=>(h.rd θ R w s).drop hc k⟩
theorem F2.take{α:Type}{Ε:α->τ}{sz:Nat}{ad:OA}{I:List α}(h:F2 L ad α Ε sz I)(k:Nat):F2 L ad α Ε sz (I.take k):=⟨λθ R w s=>(h.rd θ R w s).take k⟩
def omap{α:Type}(Ε:α->Value)(b:Nat)(m:List (Int×α)):HP:=λ_ h =>
 ∃es B,h b=some (.map es B)/\es.toList.map (λe=>(e.key,e.val))=m.map (λp=>(Value.int .i64 p.1,Ε p.2))/\(m.map (·.1)).Nodup/\es.size<=B/\(∀e∈es,e.born<B)/\(es.toList.map (·.born)).Nodup
class Xi (L:Η) (b:Nat) (α:outParam Type) (Ε:outParam (α->Value)) (m:outParam (List (Int×α))) (R:outParam (Η)):Prop where
 perm:L.Perm (omap Ε b m::R)
def Ve{α:Type}(m:List (Int×α))(k:Int)(a:α):List (Int×α):=if m.any (λp=>p.1 == k) then m.map (λp=>if p.1=k then(k,a) else p) else m++[(k,a)]
def UH{α:Type}(m:List (Int×α))(k:Int):List (Int×α):=m.filter (λp=>!(p.1 == k))
def Sat.Xj{α:Type}{θ:Th}{Ε:α->Value}{b:Nat}{m:List (Int×α)}{L:Η}{w:World}(s:Sat θ (omap Ε b m::L) w) :
  ∃es B,es.toList.map (λe=>(e.key,e.val))=m.map (λp=>(Value.int .i64 p.1,Ε p.2))/\(m.map (·.1)).Nodup/\es.size<=B/\(∀e∈es,e.born<B)/\(es.toList.map (·.born)).Nodup/\Sat θ (jC b (.map es B)::L) w:=by
 obtain⟨ok,ι,h,a,b1,c,G6,E4,D4,d1,d2,d3,d4,⟨es,B,e1,e2,e3,e4,e5,e6⟩,d6⟩:=s;exact⟨es,B,e2,e3,e4,e5,e6,ok,ι,h,a,b1,c,G6,E4,D4,d1,d2,d3,d4,e1,d6⟩
def Sat.c9{α:Type}{θ:Th}{Ε:α->Value}{b:Nat}{m:List (Int×α)}{L:Η}{w:World}{es:Array MapEntry}{B:Nat}(s:Sat θ (jC b (.map es B)::L) w)
  (K:es.toList.map (λe=>(e.key,e.val))=m.map (λp=>(Value.int .i64 p.1,Ε p.2))) (T:(m.map (·.1)).Nodup) (h3:es.size<=B) (h4:∀e∈es,e.born<B) (h5:(es.toList.map (·.born)).Nodup):Sat θ (omap Ε b m::L) w:=by
 obtain⟨ok,ι,h,a,b1,c,G6,E4,D4,d1,d2,d3,d4,d5,d6⟩:=s;exact⟨ok,ι,h,a,b1,c,G6,E4,D4,d1,d2,d3,d4,⟨es,B,d5,K,T,h3,h4,h5⟩,d6⟩
def Ef.makeMap{t:TypeId}{α:Type}(Ε:α->Value):Ef P L env (.makeMap t none) ty (λv Γ=>∃b,v=.map (some b)/\Γ = omap Ε b []::L) :=
 Ef.val (λθ R a w ea s B pos af g=>⟨_,w.alloc (.map #[] 0),_,by simp[execOp,Instr.makeMap],⟨_,rfl,rfl⟩,Sat.c9 s.alloc (by simp) (by simp) (by simp) (by simp) (by simp)⟩)
def oC{α:Type}{Ε:α->Value}{kk:IntKind}(k:Int):∀(es:List MapEntry) (m:List (Int×α)) (i:Nat),es.map (λe=>(e.key,e.val))=m.map (λp=>(Value.int .i64 p.1,Ε p.2)) ->
  Instr.findNow (.int kk) (.int .i64 k) es i=some ((m.findIdx? (λp=>p.1 == k)).map λj=>(i+j,(m[j]?.map (λp=>Ε p.2)).getD undef))
 | [],[],i,_=>by simp[Instr.findNow]
 | [],_::_,_,h=>by simp at h
 | _::_,[],_,h=>by simp at h
 | e::es,p::m,i,h=>by
  simp only[List.map_cons,List.cons.injEq,Prod.mk.injEq] at h;obtain⟨⟨K,T⟩,h3⟩:=h;have ih:=oC (kk:=kk) k es m (i+1) h3;simp only[Instr.findNow,K,Instr.sameNow,if_true];by_cases hk:k=p.1
  .subst hk;simp[List.findIdx?_cons,T]
  .have hb:(k == p.1)=false:=by simpa using hk
   have B : (p.1 == k)=false:=by simpa using λh=>hk h.symm
   simp only[hb,ih,List.findIdx?_cons,B];cases List.findIdx? (λp=>p.1 == k) m<;>simp;omega
def lp{t:TypeId}{k:IntKind}{kk:IntKind}{n:Int}{w:World}{b:Bool}(h:P.underlying t=some (.int kk)):(Instr.checkKey b 10000 t (.int k n)).run P w=.ok () w:=by
 have:∀m,(Instr.checkKey b (m+1) t (.int k n)).run P w=.ok () w:=λm=>by simp[Instr.checkKey,run_underlying h]
 exact this 9999
class Xk (P:Program) (ac:Nat) (η:outParam Nat) (z:outParam Value):Prop where
 ok:∃Ξ k,P.underlying ac=some (.map Ξ η)/\P.underlying Ξ=some (.int k)/\(P.info? η).map (·.zero)=some (some z)
def iC{w:World}{b:Nat}{es B : Array MapEntry}{c c' : Nat}(hb:w.heap[b]? = some (.map es c)):(setObj b (.map B c')).run P w=.ok () { w with heap:=w.heap.setIfInBounds b (.map B c') }:=by simp[setObj,Sem.run,hb]
def Sat.SP{θ:Th}{b:Nat}{o o' : Obj}{L:Η}{w:World}(s:Sat θ (jC b o::L) w):Sat θ (jC b o'::L) { w with heap:=w.heap.setIfInBounds b o' }:=by
 have hb:=s.Nr;have B:=(Array.getElem?_eq_some_iff.1 hb).1;refine s.update ⟨s.1.tape,s.1.os,s.1.output,s.1.drawn⟩ ?_ (λk x hk O=>?_)
 .simp[B]
 .simp only;rw[Array.getElem?_setIfInBounds_ne (Ne.symm hk)];exact O
def HJ{α:Type}{m:List (Int×α)}{k:Int}{a:α}(h:(m.map (·.1)).Nodup):((Ve m k a).map (·.1)).Nodup:=by
 unfold Ve;split
 .rw[List.map_map]
  have:(λp:Int×α=>(if p.1=k then(k,a) else p).1)=(·.1):=by
   funext p;split
   .rename_i h;exact h.symm
   .rfl
  show((m.map ((·.1) ∘ λp=>if p.1=k then(k,a) else p))).Nodup;rw[show((·.1) ∘ λp:Int×α=>if p.1=k then(k,a) else p)=(λp:Int×α=>(if p.1=k then(k,a) else p).1) from rfl,this];exact h
 .rename_i hn;rw[List.map_append,List.nodup_append];refine⟨h,by simp,?_⟩;intro x O y Y;simp at Y;subst Y;rintro rfl;apply hn;obtain⟨p,hp,rfl⟩:=H9 O;exact List.any_eq_true.2 ⟨p,hp,by simp⟩
def vL{α:Type}{m:List (Int×α)}{k:Int}{j:Nat}(h:m.findIdx? (λp=>p.1 == k)=some j):m.any (λp=>p.1 == k)=true:=by
 obtain⟨B,K,_⟩:=List.findIdx?_eq_some_iff_getElem.1 h;exact List.any_eq_true.2 ⟨m[j],List.getElem_mem B,K⟩
def mc{α:Type}{k:Int}{a:α}:∀{m:List (Int×α)} {j:Nat},(m.map (·.1)).Nodup->m.findIdx? (λp=>p.1 == k)=some j->m.map (λp=>if p.1=k then(k,a) else p)=m.set j (k,a)
 | [],j,_,h=>by simp at h
 | p::m,j,hn,h=>by
  simp only[List.map_cons,List.nodup_cons] at hn;rw[List.findIdx?_cons] at h;by_cases hk:p.1=k
  .simp[hk] at h;subst h;simp only[List.map_cons,hk,if_true,List.set_cons_zero,List.cons.injEq,true_and];rw[List.map_congr_left (g:=id),List.map_id];intro q hq;have:q.1≠k:=λe=>hn.1 (by rw[hk,<-e];exact List.mem_map_of_mem hq);simp[this]
  .have hb:(p.1 == k)=false:=by simpa using hk
   simp only[hb] at h;obtain⟨i,hi,rfl⟩:=Option.map_eq_some_iff.1 h;simp only[List.map_cons,hk,if_false,List.set_cons_succ,List.cons.injEq,true_and];exact mc hn.2 hi
def Ef.mapUpdate{t:TypeId}{x y z' : Operand}{b η:Nat}{z v:Value}{α:Type}{Ε:α->Value}{m:List (Int×α)}{F9:Η}{k:Int}(e:α)[ht:Xk P t η z][hp:Xi L b α Ε m F9](O:cq env x=some (.map (some b)))(Y:cq env y=some (.int .i64 k))(hz:cq env z' = some v)(hv:v=Ε e)
  : Ef P L env (.mapUpdate t x y z') ty (λ_ Γ=>Γ = omap Ε b (Ve m k e)::F9) :=
 Ef.skip (λθ R a w ea s b3 pos af g=>by
  subst hv;obtain⟨Ξ,kk,K,T,h3⟩:=ht.ok;obtain⟨es,B,e1,e2,e3,e4,e5,s2⟩:=(s.perm (hp.perm.append_right R)).Xj;have hb:=s2.Nr;have hf:=oC (kk:=kk) k es.toList m 0 e1;have M:(getObj b).run P w=.ok (.map es B) w:=by simp[getObj,Sem.run,hb]
  have a9:=HJ (k:=k) (a:=e) e2;cases hj:m.findIdx? (λp=>p.1 == k) with
  | none =>
   rw[hj] at hf;simp only[Option.map_none] at hf
   have b1:m.any (λp=>p.1 == k)=false:=by
    rw[List.findIdx?_eq_none_iff] at hj;simpa using hj
   refine⟨_,_,?_,rfl,Sat.c9 (s2.SP (o':=.map (es.push { key:=.int .i64 k,val:=Ε e,born:=B }) (B+1))) ?_ a9 ?_ ?_ ?_⟩
   .simp[execOp,aJ ea O,aJ ea Y,aJ ea hz,Instr.mapUpdate,run_underlying K,M,lp T,Instr.findKey,run_underlying T,hf,iC hb]
   .simp[e1,Ve,b1]
   .simp;omega
   .intro x O;rcases Array.mem_push.1 O with O|rfl
    .have:=e4 x O;omega
    .simp
   .simp only[Array.toList_push,List.map_append,List.map_cons,List.map_nil];rw[List.nodup_append];refine⟨e5,by simp,?_⟩;intro x O y Y;simp at Y;subst Y;obtain⟨q,hq,rfl⟩:=H9 O;have:=e4 q (by simpa using hq)
    omega
  | some j =>
   rw[hj] at hf;simp only[Option.map_some,Nat.zero_add] at hf;have a4:=vL hj;have a6:=mc (a:=e) e2 hj;obtain⟨a3,a7,_⟩:=List.findIdx?_eq_some_iff_getElem.1 hj
   have b4:es.size=m.length:=by
    have:=congrArg List.length e1
    simpa using this
   have a5:((es[j]?).map (·.key)).getD (Value.int .i64 k)=.int .i64 k:=by
    have h5:=congrArg (λl=>l[j]?) e1;simp only[List.getElem?_map,List.getElem?_eq_getElem a3,Array.getElem?_toList] at h5;rw[Array.getElem?_eq_getElem (by omega)] at h5 ⊢;simp at h5 ⊢;rw[h5.1];simp at a7;rw[a7]
   have b2:(Instr.keyThatStays (((es[j]?).map (·.key)).getD (Value.int .i64 k)) (.int .i64 k)).run P w=.ok (.int .i64 k) w:=by
    rw[a5]
    have:Instr.sameBits 10000 (.int .i64 k) (.int .i64 k)=true:=by
     show Instr.sameBits (9999+1) (.int .i64 k) (.int .i64 k)=true;simp[Instr.sameBits]
    simp[Instr.keyThatStays,this]
   refine⟨_,_,?_,rfl,Sat.c9 (s2.SP (o':=.map (es.modify j λx=>{ x with key:=.int .i64 k,val:=Ε e }) B)) ?_ a9 ?_ ?_ ?_⟩
   .simp[execOp,aJ ea O,aJ ea Y,aJ ea hz,Instr.mapUpdate,run_underlying K,M,lp T,Instr.findKey,run_underlying T,hf,b2,iC hb]
   .simp only[Ve,a4,if_true,a6];rw[Array.toList_modify];apply List.ext_getElem?;intro i;have h5:=congrArg (λl=>l[i]?) e1;simp only[List.getElem?_map] at h5;simp only[List.getElem?_map,List.getElem?_modify,List.getElem?_set];by_cases a2:j=i
    .subst a2;have b0:j<es.toList.length:=by simp;omega
     simp[a3,List.getElem?_eq_getElem b0]
    .simp only[a2,if_false];cases hq:es.toList[i]? with
     | none=>rw[hq] at h5;simpa using h5
     | some q=>rw[hq] at h5;simpa using h5
   .simpa using e3
   .intro x O;obtain⟨i,hi,rfl⟩:=Array.mem_iff_getElem.1 O;rw[Array.getElem_modify];have h6:es[i]'(by simpa using hi)∈es:=Array.getElem_mem _;split
    .exact e4 (es[i]'(by simpa using hi)) h6
    .exact e4 _ h6
   .have:(es.modify j λx=>{ x with key:=.int .i64 k,val:=Ε e }).toList.map (·.born)=es.toList.map (·.born):=by
     rw[Array.toList_modify];apply List.ext_getElem?;intro i;simp only[List.getElem?_map,List.getElem?_modify];by_cases a2:j=i
     .subst a2;cases es.toList[j]?<;>simp
     .simp[a2]
    rw[this];exact e5)
def Ar{α:Type}{k:Int}:∀{m:List (Int×α)} {j:Nat},(m.map (·.1)).Nodup->m.findIdx? (λp=>p.1 == k)=some j->UH m k=m.eraseIdx j
 | [],j,_,h=>by simp at h
 | p::m,j,hn,h=>by
  simp only[List.map_cons,List.nodup_cons] at hn;rw[List.findIdx?_cons] at h;by_cases hk:p.1=k
  .simp[hk] at h;subst h;simp only[UH,List.filter_cons,hk,beq_self_eq_true,Bool.not_true,Bool.false_eq_true,if_false,List.eraseIdx_zero,List.tail_cons];apply List.filter_eq_self.2;intro q hq;have:q.1≠k:=λe=>hn.1 (by rw[hk,<-e];exact List.mem_map_of_mem hq);simp[this]
  .have hb:(p.1 == k)=false:=by simpa using hk
   simp only[hb] at h;obtain⟨i,hi,rfl⟩:=Option.map_eq_some_iff.1 h;have ih:=Ar hn.2 hi;simp only[UH,List.filter_cons,hb,Bool.not_false,if_true,List.eraseIdx_cons_succ,List.cons.injEq,true_and];exact ih
def jP{β γ:Type}(f:β->γ):∀(l:List β) (j:Nat),(l.eraseIdx j).map f=(l.map f).eraseIdx j
 | [],j=>by simp
 | x::l,0=>by simp
 | x::l,j+1=>by simp[jP f l j]
def Ef.delete{t kt:TypeId}{x y:Operand}{b η:Nat}{z:Value}{α:Type}{Ε:α->Value}{m:List (Int×α)}{F9:Η}{k:Int}[ht:Xk P t η z][hp:Xi L b α Ε m F9](O:cq env x=some (.map (some b)))(Y:cq env y=some (.int .i64 k))
  : Ef P L env (.call { callee:=.builtin .delete,args:=#[x,y],argTypes:=#[t,kt] }) ty (λ_ Γ=>Γ = omap Ε b (UH m k)::F9) :=
 Ef.val (λθ R a w ea s a7 pos af g=>by
  obtain⟨Ξ,kk,K,T,h3⟩:=ht.ok;obtain⟨es,B,e1,e2,e3,e4,e5,s2⟩:=(s.perm (hp.perm.append_right R)).Xj;have hb:=s2.Nr;have hf:=oC (kk:=kk) k es.toList m 0 e1;have M:(getObj b).run P w=.ok (.map es B) w:=by simp[getObj,Sem.run,hb]
  have a5:((UH m k).map (·.1)).Nodup:=e2.sublist ((List.filter_sublist).map _)
  have b0:es.size=m.length:=by
   have:=congrArg List.length e1
   simpa using this
  cases hj:m.findIdx? (λp=>p.1 == k) with
  | none =>
   rw[hj] at hf;simp only[Option.map_none] at hf;have a3:=List.findIdx?_eq_none_iff.1 hj;have he:UH m k=m:=List.filter_eq_self.2 λp hp=>by simp[a3 p hp]
   refine⟨.tuple #[],_,_,?_,rfl,Sat.c9 (s2.SP (o':=.map es B)) (by rw[he];exact e1) a5 e3 e4 e5⟩;simp[execOp,resolve,invoke,builtin,aJ ea O,aJ ea Y,Builtin.delete_,run_underlying K,M,lp T,Instr.findKey,run_underlying T,hf,iC hb]
  | some j =>
   rw[hj] at hf;simp only[Option.map_some,Nat.zero_add] at hf;have a4:=Ar e2 hj;obtain⟨a6,a9,_⟩:=List.findIdx?_eq_some_iff_getElem.1 hj
   have a2:(es.eraseIdxIfInBounds j).toList=es.toList.eraseIdx j:=by
    simp[Array.eraseIdxIfInBounds,show j<es.size by omega]
   refine⟨.tuple #[],_,_,?_,rfl,Sat.c9 (s2.SP (o':=.map (es.eraseIdxIfInBounds j) B)) ?_ a5 ?_ ?_ ?_⟩
   .simp[execOp,resolve,invoke,builtin,aJ ea O,aJ ea Y,Builtin.delete_,run_underlying K,M,lp T,Instr.findKey,run_underlying T,hf,iC hb]
   .rw[a2,a4,jP,jP,e1]
   .have h7:(es.eraseIdxIfInBounds j).size=(es.toList.eraseIdx j).length:=by rw[<-a2,Array.length_toList]
    have h8:(es.toList.eraseIdx j).length<=es.toList.length:=List.length_eraseIdx_le es.toList j;have h9:es.toList.length=es.size:=Array.length_toList;omega
   .intro x O;have:x∈es.toList.eraseIdx j:=by rw[<-a2];exact Array.mem_toList_iff.2 O
    exact e4 x (by simpa using List.mem_of_mem_eraseIdx this)
   .rw[a2,jP];exact e5.sublist (List.eraseIdx_sublist _ _))
end ops
end
section
class T7 (L:Η) (Ο:HP) (R:outParam (Η)):Prop where
 perm:L.Perm (Ο::R)
instance (Ο:HP)(L:Η):T7 (Ο::L) Ο L:=⟨List.Perm.refl _⟩
instance (Ο fG:HP)(L R:Η)[h:T7 L Ο R]:T7 (fG::L) Ο (fG::R):=⟨(h.perm.cons fG).trans (List.Perm.swap _ _ _)⟩
def F.take{L R pre R' : Η}{Ο:HP}[h:T7 L Ο R](hr:F R (pre++R')):F L ((Ο::pre)++R'):=(F.perm h.perm).trans hr.cons
def F.l9{L R Γ : Η}{Ο:HP}[h:T7 L Ο R](hr:F R Γ):F L (Ο::Γ):=(F.perm h.perm).trans hr.cons
def Ef.d8{P:Program}{env:Env}{L:Η}{f:FuncId}{I:Array Operand}{ats:Array TypeId}{ty:TypeId}{vs:τ}{post:Value->Η->Prop}
  (c:Τ P f vs.toArray L post) (hv:fD env I.toList=some vs):Ef P L env (.call { callee:=.value (.func f),args:=I,argTypes:=ats }) ty post:=by
 have h:=Ef.call (R':=[]) (L:=L) (ats:=ats) (ty:=ty) c hv (by rw[List.append_nil];exact F.refl _);intro θ R a w o next F5 ha s K T hn
 refine h θ R a w o next F5 ha s K T ?_
 rintro v Γ cO ⟨L₁,hp,rfl⟩ s';rw[List.append_nil] at s';exact hn v L₁ cO hp s'
def F.mk{L Γ : Η}(h:∀θ R w,Sat θ (L++R) w->Sat θ (Γ++R) w):F L Γ:=h
def F.sat{L Γ : Η}(h:F L Γ){θ:Th}{R:Η}{w:World}(s:Sat θ (L++R) w):Sat θ (Γ++R) w:=h θ R w s
def F.o0{Ο fG:HP}{L:Η}(h:∀θ R w,Sat θ (Ο::R) w->Sat θ (fG::R) w):F (Ο::L) (fG::L):=λθ R w s=>h θ (L++R) w s
section at_
variable {P:Program}{N:Nat}{env:Env}{L:Η}{Ξ:F4}{ty:TypeId}{v:Value}
def Ev.u7{x:Operand}(h:Ev P L env (.move x) ty v):Ev P L env (.move x) ty v:=h
def Ev.p7{x:Operand}(h:Ev P L env (.assign x) ty v):Ev P L env (.assign x) ty v:=h
def Ev.u6{a b c:Operand}(h:Ev P L env (.pick a b c) ty v):Ev P L env (.pick a b c) ty v:=h
def Ev.o6{x:Operand}{i:Nat}(h:Ev P L env (.extract x i) ty v):Ev P L env (.extract x i) ty v:=h
def Ev.x7{o:BinOp}{t yt:TypeId}{x y:Operand}(h:Ev P L env (.binOp o t x y yt) ty v):Ev P L env (.binOp o t x y yt) ty v:=h
def Ev.z8{o:UnOp}{t:TypeId}{x:Operand}(h:Ev P L env (.unOp o t x) ty v):Ev P L env (.unOp o t x) ty v:=h
def Ev.m6{s t:TypeId}{x:Operand}(h:Ev P L env (.convert s t x) ty v):Ev P L env (.convert s t x) ty v:=h
def Ev.x6{x:Operand}(h:Ev P L env (.nilCheck x) ty v):Ev P L env (.nilCheck x) ty v:=h
def Ev.l7{s f:Nat}{x:Operand}(h:Ev P L env (.fieldAddr s x f) ty v):Ev P L env (.fieldAddr s x f) ty v:=h
def Ev.o0{t:TypeId}{x:Operand}(h:Ev P L env (.load t x) ty v):Ev P L env (.load t x) ty v:=h
def Ev.j7{t:TypeId}{x i:Operand}(h:Ev P L env (.indexAddr t x i) ty v):Ev P L env (.indexAddr t x i) ty v:=h
def Ev.q7{t:TypeId}{ps:Array (Nat×Operand)}(h:Ev P L env (.build t ps) ty v):Ev P L env (.build t ps) ty v:=h
def Ev.p9{t:TypeId}{x:Operand}{a b c:Option Operand}(h:Ev P L env (.slice t x a b c) ty v):Ev P L env (.slice t x a b c) ty v:=h
def Ev.v6{c:Call}(h:Ev P L env (.call c) ty v):Ev P L env (.call c) ty v:=h
def Ev.u9{fn:Fn}{fs cs:Array Operand}(h:Ev P L env (.makeFunc fn fs cs) ty v):Ev P L env (.makeFunc fn fs cs) ty v:=h
variable {ops:Array Oper}{cN:List Oper}{op:Op}{pos:String}{af:Array Edge}
theorem GO.a8{Μ:Nat}(h:GO P N ops (⟨some Μ,op,ty,pos,af,none⟩::cN) env L Ξ):GO P N ops (⟨some Μ,op,ty,pos,af,none⟩::cN) env L Ξ:=h
def GO.f9(h:GO P N ops (⟨none,op,ty,pos,af,none⟩::cN) env L Ξ):GO P N ops (⟨none,op,ty,pos,af,none⟩::cN) env L Ξ:=h
def GO.d8{Μ j:Nat}{b:Bool}(h:GO P N ops (⟨some Μ,op,ty,pos,af,some (j,b)⟩::cN) env L Ξ):GO P N ops (⟨some Μ,op,ty,pos,af,some (j,b)⟩::cN) env L Ξ:=h
variable {done:List Nat}{wk:List K4}{E8:List PE}{i:Nat}
def GP.d9{s:K4}(h:GP P N ops done (s::wk) E8 env L Ξ):GP P N ops done (s::wk) E8 env L Ξ:=h
def δ.c8{Μ:Nat}(h:δ P N ops done (.ev i) wk (some Μ) op ty E8 env L Ξ):δ P N ops done (.ev i) wk (some Μ) op ty E8 env L Ξ:=h
def δ.c9{Μ:Nat}(h:δ P N ops done (.ef i) wk (some Μ) op ty E8 env L Ξ):δ P N ops done (.ef i) wk (some Μ) op ty E8 env L Ξ:=h
theorem δ.c7(h:δ P N ops done (.ef i) wk none op ty E8 env L Ξ):δ P N ops done (.ef i) wk none op ty E8 env L Ξ:=h
theorem ms.a8{pe:PE}{ts acc:List PE}(h:ms P N ops done i wk (pe::ts) acc env L Ξ):ms P N ops done i wk (pe::ts) acc env L Ξ:=h
def Α.j5(A:Nat){l:Array Oper}{dr:Bool}{x y:Code}(h:Α P N (.seq (.seq (.region A l dr) x) y) env L Ξ):Α P N (.seq (.seq (.region A l dr) x) y) env L Ξ:=h
def Α.atS(A:Nat){l:Array Oper}{dr:Bool}{y:Code}(h:Α P N (.seq (.region A l dr) y) env L Ξ):Α P N (.seq (.region A l dr) y) env L Ξ:=h
theorem Α.a8{A:Nat}{l:List Oper}(h:Α P N (.region A l.toArray true) env L Ξ):Α P N (.region A l.toArray true) env L Ξ:=h
