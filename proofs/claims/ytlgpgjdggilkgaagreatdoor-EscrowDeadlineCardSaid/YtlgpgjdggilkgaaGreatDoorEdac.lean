/- Lemmas. -/
import Derived.Test.YtlgpgjdggilkgaaGreatDoorEdab
import Derived.OrdersHeld
set_option linter.all false
namespace Go.V
section
section any
variable {P:Program}{ops:Array Oper}{F9:Exit->Act->World->Prop}{md:Region.Mode}
inductive Uc (md:Region.Mode) (ops:Array Oper):Nat->Nat->Prop where
 | one {j i:Nat} {o:Oper} {e:Edge}:ops[j]? = some o->e∈o.after->Region.binds md e=true->e.on=i->Uc md ops j i
 | more {j i:Nat} {o:Oper} {e:Edge}:ops[j]? = some o->e∈o.after->Region.binds md e=true->Uc md ops e.on i->Uc md ops j i
def NI(md:Region.Mode)(J:Array Oper)(A:Array Bool):Prop:=∀j o,J[j]? = some o->A.getD j false=true->∀e∈o.after,Region.binds md e=true->A.getD e.on false=true
def NI.dep{A:Array Bool}(h:NI md ops A){j i:Nat}(hd:Uc md ops j i)(hj:∀o,ops[j]? = some o->∀e∈o.after,Region.binds md e=true->A.getD e.on false=true):A.getD i false=true:=by
 induction hd with
 | one I Q h3 h4=>subst h4;exact hj _ I _ Q h3
 | more I Q h3 _ ih=>exact ih λo ho e he hb=>h _ o ho (hj _ I _ Q h3) e he hb
theorem NI.set{A:Array Bool}(h:NI md ops A){i:Nat}(hi:i∈Region.ready md ops A):NI md ops (A.setIfInBounds i true):=by
 intro j o ho hj e he hb;obtain⟨_,oi,a3,J⟩:=mem_ready.1 hi;by_cases a2:i=j
 .subst a2;rw[a3] at ho;cases ho;exact getD_set_true (J e he hb)
 .rw[getD_set_ne false a2] at hj;exact getD_set_true (h j o ho hj e he hb)
theorem NI.a8(n:Nat):NI md ops (Array.replicate n false):=by
 intro j o _ hj;simp[Array.getElem?_replicate] at hj;split at hj<;>simp at hj
abbrev Tg:=List (Nat×(World->Prop))
def kp(dep:Nat->Nat->Bool)(j:Nat)(S:Tg):Tg:=S.filter λp=>!dep j p.1
def PC(P:Program)(md:Region.Mode)(A:Array Oper)(F9:Exit->Act->World->Prop)(dep:Nat->Nat->Bool):Nat->Array Bool->Tg->Act->World->Prop
 | 0,listed,_,a,w=>Region.ready md A listed=[]/\F9 .normal a w
 | fuel+1,listed,S,a,w =>
  (Region.ready md A listed=[]->F9 .normal a w) /\
  ∀j∈Region.ready md A listed,wpOp P A F9 j (λa' dH=>(∀p∈kp dep j S,p.2 dH)/\PC P md A F9 dep fuel (listed.setIfInBounds j true) (kp dep j S) a' dH) a w
variable {dep:Nat->Nat->Bool}
theorem PC.a8:∀(fuel:Nat) (A:Array Bool) (S:Tg) (a:Act) (w:World),PC P md ops F9 dep fuel A S a w->wpAny P md ops F9 fuel A a w
 | 0,_,_,_,_,h=>h
 | fuel+1,_,_,_,_,h=>⟨h.1,λj hj=>wpOp_mono (λa' dH h'=>PC.a8 fuel _ _ a' dH h'.2) (h.2 j hj)⟩
def PC.less:∀(fuel:Nat) (A:Array Bool) (S S' : Tg) (a:Act) (w:World),(∀p∈S',p∈S)->PC P md ops F9 dep fuel A S a w->PC P md ops F9 dep fuel A S' a w
 | 0,_,_,_,_,_,_,h=>h
 | fuel+1,_,S,S',_,_,hs,h=>⟨h.1,λj hj=>wpOp_mono (λa' dH h' =>
   have hk:∀p∈kp dep j S',p∈kp dep j S:=λp hp=>by
    unfold kp at *;rw[List.mem_filter] at *;exact⟨hs p hp.1,hp.2⟩
   ⟨λp hp=>h'.1 p (hk p hp),PC.less fuel _ _ _ a' dH hk h'.2⟩) (h.2 j hj)⟩
def PC.first{i:Nat}{oi:Oper}{v:Value}{Si:World->Prop}(hi:ops[i]? = some oi)(a7:∀(j:Nat) (o:Oper) cs b,ops[j]? = some o->o.op≠.select cs b)
  (hQ:∀c a w,F9 (.panic c) (a.put oi.dst v) w->F9 (.panic c) a w) (b0:∀j,dep j i=true->Uc md ops j i) :
  ∀(fuel:Nat) (A:Array Bool) (S:Tg) (a:Act) (w:World),
   NI md ops A ->
   (∀j oj,ops[j]? = some oj->j≠i->A.getD j true=false->(∀e∈oj.after,Region.binds md e=true->e.on≠i)->oi.apart ops oj=true) ->
   i∈Region.ready md ops A->YieldsIf P ops Si oi v a->Si w->(∀p∈S,p.2 w) ->
   PC P md ops F9 dep fuel (A.setIfInBounds i true) ((i,Si)::S) (a.put oi.dst v) w->PC P md ops F9 dep (fuel+1) A S a w:=by
 intro fuel;induction fuel with
 | zero =>
  intro A S a w _ _ hr U hS hP H;refine⟨λh=>(by rw[h] at hr;cases hr),λj hj=>?_⟩;by_cases a2:j=i
  .subst a2;exact U.wpOp hi hS ⟨λp hp=>hP p ((List.mem_filter.1 hp).1),H⟩
  .have:=ready_mono hj a2
   rw[H.1] at this;cases this
 | succ fuel ih =>
  intro A S a w b2 J hr U hS hP H;refine⟨λh=>(by rw[h] at hr;cases hr),λj hj=>?_⟩;by_cases a2:j=i
  .subst a2;exact U.wpOp hi hS ⟨λp hp=>hP p ((List.mem_filter.1 hp).1),PC.less _ _ _ _ _ _ (λp hp=>List.mem_cons_of_mem _ ((List.mem_filter.1 hp).1)) H⟩
  .have I:=H.2 j (ready_mono hj a2);obtain⟨a6,oj,a9,a4⟩:=mem_ready.1 hj
   have a5:A.getD i false=true->False:=λI=>by
    have h0:=(mem_ready.1 hr).1;rcases Nat.lt_or_ge i A.size with h' | h'
    .simp[h'] at h0 I;rw[h0] at I;cases I
    .simp[Array.getElem?_eq_none h'] at I
   have b1:∀e∈oj.after,Region.binds md e=true->e.on≠i:=λe he hb b5=>a5 (b5▸a4 e he hb)
   have b8:dep j i=false:=by
    cases hd:dep j i with
    | false=>rfl
    | true=>exact(a5 (b2.dep (b0 j hd) λo ho e he hb=>by rw[a9] at ho;cases ho;exact a4 e he hb)).elim
   have Q:=wpOp_putIf a9 (J j oj a9 a2 a6 b1) (λcs b=>a7 i oi cs b hi) (λcs b=>a7 j oj cs b a9) hQ U I
   have a3 : ∀k ok,ops[k]? = some ok->k≠i->(A.setIfInBounds j true).getD k true=false ->
     (∀e∈ok.after,Region.binds md e=true->e.on≠i)->oi.apart ops ok=true:=λk ok hk b6 b4 b9=>by
    refine J k ok hk b6 ?_ b9;by_cases b3:j=k
    .subst b3;exact a6
    .rw[getD_set_ne true b3] at b4;exact b4
   have b7:kp dep j ((i,Si)::S)=(i,Si)::kp dep j S:=by simp[kp,b8]
   rw[b7] at Q;refine wpOp_mono (λa' dH h3=>⟨λp hp=>h3.2.1 p (List.mem_cons_of_mem _ hp),ih (A.setIfInBounds j true) _ a' dH (b2.set hj) a3 (ready_mono hr (Ne.symm a2)) h3.1 (h3.2.1 _ List.mem_cons_self) (λp hp=>h3.2.1 p (List.mem_cons_of_mem _ hp)) ?_⟩) Q;rw[Array.setIfInBounds_comm _ _ a2];exact h3.2.2
end any
def dT(n:Nat):List Nat->Array Bool
 | []=>Array.replicate n false
 | i::Δ=>(dT n Δ).setIfInBounds i true
def UJ(A:Array Oper):Nat->Nat->Nat->Bool
 | 0,_,_=>false
 | fuel+1,j,i=>match A[j]? with
  | none=>false
  | some o=>o.after.toList.any λe=>Region.binds .any e && (e.on == i || UJ A fuel e.on i)
def tE{A:Array Oper}:∀(fuel j i:Nat),UJ A fuel j i=true->Uc .any A j i
 | 0,_,_,h=>by simp[UJ] at h
 | fuel+1,j,i,h=>by
  unfold UJ at h;cases ho:A[j]? with
  | none=>rw[ho] at h;simp at h
  | some o =>
   rw[ho] at h;simp only[List.any_eq_true] at h;obtain⟨e,he,h⟩:=h;have J : e∈o.after:=by simpa using he
   simp only[Bool.and_eq_true,Bool.or_eq_true,beq_iff_eq] at h;rcases h with⟨hb,h|h⟩
   .exact .one ho J hb h
   .exact .more ho J hb (tE fuel _ i h)
inductive K3 where
 | ev (i:Nat)
 | ef (i:Nat)
abbrev Yr(l:List K3):List K3:=.ev 0::.ev 1::.ev 2::.ev 3::l
abbrev Ys(l:List K3):List K3:=.ev 0::.ev 1::.ev 2::.ev 3::.ev 4::.ev 5::l
abbrev Yt(l:List K3):List K3:=.ev 0::.ev 1::.ev 2::.ev 3::.ev 4::.ev 5::.ev 6::.ev 7::l
abbrev Yu(l:List K3):List K3:=.ev 0::.ev 1::.ev 2::.ev 3::.ev 4::.ev 5::.ev 6::.ev 7::.ev 8::.ev 9::l
abbrev Yv(l:List K3):List K3:=.ev 0::.ev 1::.ev 2::.ev 3::.ev 4::.ev 5::.ev 6::.ev 7::.ev 8::.ev 9::.ev 10::.ev 11::.ev 12::l
abbrev Yw(l:List K3):List K3:=.ev 0::.ev 1::.ev 2::.ev 3::.ev 4::.ev 5::.ev 6::.ev 7::.ev 8::.ev 9::.ev 10::.ev 11::.ev 12::.ev 13::.ev 14::.ev 15::.ev 16::l
def jq(A:Array Oper)(done:List Nat):List K3->Bool
 | []=>(Region.ready .any A (dT A.size done)).isEmpty
 | .ev i::Δ=>(Region.ready .any A (dT A.size done)).contains i && Region.free .any A (dT A.size done) i && jq A (i::done) Δ
 | .ef i::Δ=>(Region.ready .any A (dT A.size done) == [i]) && jq A (i::done) Δ
structure PE where
 idx:Nat
 op:Op
 ty:TypeId
 env:Env
 v:Value
def mg(P:Program)(A:List PE)(S:Tg):Prop:=∀p∈S,(∀w,p.2 w)\/∃pe∈A,pe.idx=p.1/\∃ρ o,Qe pe.env ρ/\o.op=pe.op/\o.type=pe.ty/\∀w,(execOp ρ o).run P w=.ok (.value pe.v) w->p.2 w
def Q3(A:Array Oper)(j i:Nat):Bool:=UJ A A.size j i
class Ro (Ρ:F8):Prop where
 no:∀c env L,¬Ρ (.panic c) env L
 out:∀env L,¬Ρ .outgrown env L
instance {n:Env->Ι->Prop}{Ρ:F8}[h:Ro Ρ]:Ro (F8.seq n Ρ):=⟨λc env L=>h.no c env L,λenv L=>h.out env L⟩
instance {r:Nat}{Ρ:F8}[h:Ro Ρ]:Ro (F8.inBlock r Ρ):=⟨λc env L=>h.no c env L,λenv L=>h.out env L⟩
instance {P:Program}{N:Nat}{rs:List ResultVar}{post:Value->Ι->Prop}:Ro (Ends P N rs post):=⟨(by
 rintro c env L ⟨h,_⟩;rcases h with h|h
 .cases h
 .cases h),(by
 rintro env L ⟨h,_⟩;rcases h with h|h
 .cases h
 .cases h)⟩
def GP(P:Program)(N:Nat)(A:Array Oper)(done:List Nat)(y5:List K3)(J:List PE)(env:Env)(L:Ι)(Ρ:F8):Prop :=
 Ro Ρ->jq A done y5=true->Region.noSelect A=true->NI .any A (dT A.size done) ->
 ∀θ aa a w S,At N env L θ aa a w->mg P J S->(∀p∈S,p.2 w) ->
  PC P .any A (QK θ aa N Ρ) (Q3 A) y5.length (dT A.size done) S a w
def SI(A:Array Oper):Bool:=A.all λo=>match o.op with
 | .defer _=>false
 | _=>true
def yY{A:Array Oper}(h:SI A=true){i:Nat}{o:Oper}(hi:A[i]? = some o):∀c,o.op≠.defer c:=by
 intro c hc;have I:=Array.all_eq_true.1 h i (Array.getElem?_eq_some_iff.1 hi).1;rw[(Array.getElem?_eq_some_iff.1 hi).2] at I;simp[hc] at I
def Fu{P:Program}{Δ:Option Nat}{A:Array Oper}{F9:Exit->Act->World->Prop}(hd:SI A=true)(hq:¬LetsOut F9){i:Nat}{Ρ K' : Act->World->Prop}{a:Act}{w:World}(hk:∀a w,Ρ a w->K' a w)(h:wpOp P A F9 i Ρ a w):wpOpIn (FW Δ) 0 P A F9 i K' a w:=by
 have h:=wpOp_mono hk h;unfold wpOp at h;unfold wpOpIn;cases hi:A[i]? with
 | none=>simp only[hi] at h ⊢;exact h
 | some o =>
  simp only[hi] at h ⊢;split
  .rename_i hw;simp only[hw,if_true] at h;rcases h with h|h
   .exact mq (yY hd hi) h
   .exact iJ h.2 hq
  .rename_i hw;simp only[hw] at h;exact⟨λ_ _=>trivial,h⟩
def oW{P:Program}{Δ:Option Nat}{md:Region.Mode}{J:Array Oper}{F9:Exit->Act->World->Prop}(hd:SI J=true)(hq:¬LetsOut F9):∀(fuel:Nat) (A:Array Bool) (a:Act) (w:World),wpAny P md J F9 fuel A a w->wpAnyIn (FW Δ) 0 P md J F9 fuel A a w
 | 0,_,_,_,h=>h
 | fuel+1,_,_,_,h=>⟨h.1,λi hi=>Fu hd hq (λa w=>oW hd hq fuel _ a w) (h.2 i hi)⟩
def K3.idx:K3->Nat
 | .ev i=>i
 | .ef i=>i
def δ(P:Program)(N:Nat)(A:Array Oper)(done:List Nat)(s:K3)(y5:List K3)(a2:Option Tmp)(op:Op)(ty:TypeId)(J:List PE)(env:Env)(L:Ι)(Ρ:F8):Prop :=
 ∀pos af g,A[s.idx]? = some ⟨a2,op,ty,pos,af,g⟩->(∀a,NY N env a->Region.wanted ⟨a2,op,ty,pos,af,g⟩ (yielded A a.tmps)=true)->GP P N A done (s::y5) J env L Ρ
def vi(P:Program)(N:Nat)(a2:Array Oper)(done:List Nat)(i:Nat)(y5:List K3)(J acc:List PE)(env:Env)(L:Ι)(Ρ:F8):Prop :=
 ∃A:List PE,(∀pe∈J,Q3 a2 i pe.idx=true\/(pe∈A/\Z P L pe.env pe.op pe.ty pe.v))/\(∀pe∈acc,pe∈A)/\GP P N a2 (i::done) y5 A env L Ρ
section gp
variable {P:Program}{N:Nat}{ops:Array Oper}{done:List Nat}{y5:List K3}{E8:List PE}{env:Env}{L:Ι}{Ρ:F8}
def Β.j5{r:Nat}{l:List Oper}(y5:List K3)[hK:Ro Ρ](hm:P.follows .mixedOrders=true)(hp:(jq l.toArray [] y5 && (y5.length == l.toArray.size) && Region.noSelect l.toArray && SI l.toArray)=true)(h:GP P N l.toArray [] y5 [] env L Ρ):Β P N (.region r l.toArray true) env L Ρ:=by
 intro Δ θ aa a w hr i;simp only[Bool.and_eq_true,beq_iff_eq] at hp;obtain⟨⟨⟨I,Q⟩,h3⟩,h4⟩:=hp;refine wpIn_region_any hm (oW h4 (by rintro⟨a',dH,env,L,_,h⟩;exact hK.out env L h) _ _ _ _ (PC.a8 (dep:=Q3 l.toArray) _ _ [] _ _ ?_));obtain⟨ο,ea,A,s⟩:=i;have:=h hK I h3 (NI.a8 _) θ aa a { w with drawn:=w.drawn+1 } [] ⟨ο,ea,A,s.drew⟩ (by intro p hp;cases hp) (by simp)
 rw[Q] at this;exact this
def GP.nil(h:Ρ .normal env L):GP P N ops done [] E8 env L Ρ:=by
 intro _ hp _ _ θ aa a w S i _ _;simp only[jq,List.isEmpty_iff] at hp;exact⟨hp,env,L,i,h⟩
def Ar{θ:Th}{R:Ι}(hK:Ro Ρ)(c:List PanicEntry)(a:Act)(w:World):¬QK θ R N Ρ (.panic c) a w:=λ⟨env,L,_,h⟩=>hK.no c env L h
theorem GP.c7{i Ξ:Nat}{op:Op}{ty:TypeId}{pos:String}{af:Array Edge}{g:Option (Nat×Bool)}{v:Value}{A : List PE}(hi:ops[i]? = some ⟨some Ξ,op,ty,pos,af,g⟩)(hd:Ξ<N)
  (U:∀θ R a w,NY N env a->Sat θ (L++R) w->∃Si,YieldsIf P ops Si ⟨some Ξ,op,ty,pos,af,g⟩ v a/\Si w/\∀S,mg P E8 S->mg P A ((i,Si)::S))
  (h:GP P N ops (i::done) y5 A ((Ξ,v)::env) L Ρ):GP P N ops done (.ev i::y5) E8 env L Ρ:=by
 intro hK hp hs a2 θ aa a w S i0 a6 a3;simp only[jq,Bool.and_eq_true,List.contains_iff_mem] at hp;obtain⟨⟨I,Q⟩,h3⟩:=hp;obtain⟨ο,ea,a5,s⟩:=i0;obtain⟨Si,a7,a4,a9⟩:=U θ _ a w ea s
 have J:∀p∈(i,Si)::S,p.2 w:=λp hp=>by
  rcases L7 hp with rfl|hp
  .exact a4
  .exact a3 p hp
 refine PC.first hi (Region.noSelect_spec hs) (λc a w q=>(Ar hK c _ w q).elim) (λj hj=>tE _ j i hj) _ _ S a w a2 (Region.free_spec hi Q) I a7 a4 a3 ?_;exact h hK h3 hs (a2.set I) θ aa (a.put (some Ξ) v) w _ ⟨ο,ea.put hd v,by rw[TC];exact a5,s⟩ (a9 S a6) J
def δ.MP{i Ξ:Nat}{op:Op}{ty:TypeId}{v:Value}(he:Z P [] env op ty v)(hd:Ξ<N)(h:GP P N ops (i::done) y5 E8 ((Ξ,v)::env) L Ρ):δ P N ops done (.ev i) y5 (some Ξ) op ty E8 env L Ρ:=by
 intro pos af g hi hw;refine GP.c7 hi hd (λθ R a w ea s=>⟨λ_=>True,.inl ⟨hw a ea,?_⟩,trivial,λS hS p hp=>?_⟩) h
 .intro dH _;exact he ⟨dH.tape,dH.os,dH.output,0⟩ [] a.eval dH _ ea.O4 ⟨⟨rfl,rfl,rfl,Nat.zero_le _⟩,Hp.emp,Hp.emp,Hp.c7 _,Hp.a8 _,Hp.a8 _,trivial⟩ rfl rfl
 .rcases L7 hp with rfl|hp
  .exact .inl λ_=>trivial
  .exact hS p hp
def δ.NV{i Ξ:Nat}{op:Op}{ty:TypeId}{v:Value}(he:Z P L env op ty v)(hd:Ξ<N)(h:GP P N ops (i::done) y5 (⟨i,op,ty,env,v⟩::E8) ((Ξ,v)::env) L Ρ):δ P N ops done (.ev i) y5 (some Ξ) op ty E8 env L Ρ:=by
 intro pos af g hi hw;refine GP.c7 hi hd (λθ R a w ea s=>⟨λdH=>(execOp a.eval ⟨some Ξ,op,ty,pos,af,g⟩).run P dH = .ok (.value v) dH,.inl ⟨hw a ea,λdH h=>h⟩,he θ R a.eval w _ ea.O4 s rfl rfl,λS hS p hp=>?_⟩) h;rcases L7 hp with rfl|hp
 .exact .inr ⟨_,List.mem_cons_self,rfl,a.eval,_,ea.O4,rfl,rfl,λw h=>h⟩
 .rcases hS p hp with h|⟨pe,I,Q⟩
  .exact .inl h
  .exact .inr ⟨pe,List.mem_cons_of_mem _ I,Q⟩
def GP.c8{i Ξ:Nat}{op:Op}{ty:TypeId}{pos:String}{af:Array Edge}{g:Option (Nat×Bool)}(hi:ops[i]? = some ⟨some Ξ,op,ty,pos,af,g⟩)(hd:Ξ<N)(hw:∀a,NY N env a->Region.wanted ⟨some Ξ,op,ty,pos,af,g⟩ (yielded ops a.tmps)=false)
  (h:GP P N ops (i::done) y5 E8 ((Ξ,undef)::env) L Ρ):GP P N ops done (.ev i::y5) E8 env L Ρ:=by
 refine GP.c7 hi hd (λθ R a w ea s=>⟨λ_=>True,.inr ⟨hw a ea,rfl⟩,trivial,λS hS p hp=>?_⟩) h;rcases L7 hp with rfl|hp
 .exact .inl λ_=>trivial
 .exact hS p hp
def vi.nil{i:Nat}{acc:List PE}(h:GP P N ops (i::done) y5 acc env L Ρ):vi P N ops done i y5 [] acc env L Ρ:=⟨acc,(by intro pe h;cases h),λ_ h=>h,h⟩
def vi.drop{i:Nat}{pe:PE}{ts acc:List PE}(hd:Q3 ops i pe.idx=true)(h:vi P N ops done i y5 ts acc env L Ρ):vi P N ops done i y5 (pe::ts) acc env L Ρ:=by
 obtain⟨A,I,Q,h3⟩:=h;refine⟨A,λp hp=>?_,Q,h3⟩;rcases L7 hp with rfl|hp
 .exact .inl hd
 .exact I p hp
def vi.keep{i k:Nat}{op:Op}{ty:TypeId}{A : Env}{v:Value}{ts acc:List PE}(hd:Z P L A op ty v)(h:vi P N ops done i y5 ts (⟨k,op,ty,A,v⟩::acc) env L Ρ):vi P N ops done i y5 (⟨k,op,ty,A,v⟩::ts) acc env L Ρ:=by
 obtain⟨J,I,Q,h3⟩:=h;refine⟨J,λp hp=>?_,λp hp=>Q p (List.mem_cons_of_mem _ hp),h3⟩;rcases L7 hp with rfl|hp
 .exact .inr ⟨Q _ List.mem_cons_self,hd⟩
 .exact I p hp
def vi.step{i:Nat}(h:vi P N ops done i y5 E8 [] env L Ρ){θ:Th}{R:Ι}{a:Act}{w:World}{S:Tg}(hK:Ro Ρ)(h3:jq ops (i::done) y5=true)(hs:Region.noSelect ops=true)(a3:NI .any ops (dT ops.size (i::done)))(i0:At N env L θ R a w)(a7:mg P E8 S) :
  (∀p∈kp (Q3 ops) i S,p.2 w)/\PC P .any ops (QK θ R N Ρ) (Q3 ops) y5.length (dT ops.size (i::done)) (kp (Q3 ops) i S) a w:=by
 obtain⟨J,k1,_,k3⟩:=h;obtain⟨ο,ea,a5,s⟩:=i0
 have A:∀p∈kp (Q3 ops) i S,p.2 w/\((∀w,p.2 w)\/∃pe∈J,pe.idx=p.1/\∃ρ o,Qe pe.env ρ/\o.op=pe.op/\o.type=pe.ty/\∀w,(execOp ρ o).run P w=.ok (.value pe.v) w->p.2 w):=by
  intro p hp;obtain⟨a6,a2⟩:=List.mem_filter.1 hp;rcases a7 p a6 with h|⟨pe,I,Q,ρ,o,h4,h5,h6,h7⟩
  .exact⟨h w,.inl h⟩
  .rcases k1 pe I with hd|⟨hk,a4⟩
   .rw[Q] at hd;rw[hd] at a2;simp at a2
   .exact⟨h7 w (a4 θ _ ρ w o h4 s h5 h6),.inr ⟨pe,hk,Q,ρ,o,h4,h5,h6,h7⟩⟩
 exact⟨λp hp=>(A p hp).1,k3 hK h3 hs a3 θ R a w _ ⟨ο,ea,a5,s⟩ (λp hp=>(A p hp).2) (λp hp=>(A p hp).1)⟩
def δ.ef{i Ξ:Nat}{op:Op}{ty:TypeId}{post:Value->Ι->Prop}(he:Ef P L env op ty post)(hd:Ξ<N)(h:∀v Ε,post v Ε->vi P N ops done i y5 E8 [] ((Ξ,v)::env) Ε Ρ):δ P N ops done (.ef i) y5 (some Ξ) op ty E8 env L Ρ:=by
 intro pos af g hi hw hK hp hs J θ aa a w S i0 a6 a7;obtain⟨ο,ea,a5,s⟩:=i0;simp only[jq,Bool.and_eq_true,beq_iff_eq] at hp;obtain⟨I,h3⟩:=hp;have a3:i∈Region.ready .any ops (dT ops.size done):=by rw[I];exact List.mem_singleton.2 rfl
 refine⟨λh0=>(by rw[h0] at I;cases I),λj hj=>?_⟩;rw[I] at hj;have a4:j=i:=GO hj;subst a4;have a2 : ops[j]? = some ⟨some Ξ,op,ty,pos,af,g⟩:=hi;unfold wpOp;simp only[a2,hw a ea,if_true];refine .inl (he θ _ a w _ _ _ ea.O4 s rfl rfl λv Ε dH A s'=>?_);exact(h v Ε A).step hK h3 hs (J.set a3) ⟨ο,ea.put hd v,by rw[TC];exact a5,s'⟩ a6
def δ.No{i:Nat}{op:Op}{ty:TypeId}{post:Value->Ι->Prop}(he:Ef P L env op ty post)(h:∀v Ε,post v Ε->vi P N ops done i y5 E8 [] env Ε Ρ):δ P N ops done (.ef i) y5 none op ty E8 env L Ρ:=by
 intro pos af g hi hw hK hp hs J θ aa a w S i0 a6 a7;obtain⟨ο,ea,a5,s⟩:=i0;simp only[jq,Bool.and_eq_true,beq_iff_eq] at hp;obtain⟨I,h3⟩:=hp;have a3:i∈Region.ready .any ops (dT ops.size done):=by rw[I];exact List.mem_singleton.2 rfl
 refine⟨λh0=>(by rw[h0] at I;cases I),λj hj=>?_⟩;rw[I] at hj;have a4:j=i:=GO hj;subst a4;have a2 : ops[j]? = some ⟨none,op,ty,pos,af,g⟩:=hi;unfold wpOp;simp only[a2,hw a ea,if_true];refine .inl (he θ _ a w _ _ _ ea.O4 s rfl rfl λv Ε dH A s'=>?_);exact(h v Ε A).step hK h3 hs (J.set a3) ⟨ο,ea,a5,s'⟩ a6
theorem GP.a8{i Ξ:Nat}{op:Op}{ty:TypeId}{pos:String}{af:Array Edge}{g:Option (Nat×Bool)}(hi:ops[i]? = some ⟨some Ξ,op,ty,pos,af,g⟩)(hd:Ξ<N)(hw:∀a,NY N env a->Region.wanted ⟨some Ξ,op,ty,pos,af,g⟩ (yielded ops a.tmps)=false)
  (h:GP P N ops (i::done) y5 E8 ((Ξ,undef)::env) L Ρ):GP P N ops done (.ef i::y5) E8 env L Ρ:=by
 intro hK hp hs J θ aa a w S i0 a4 A;simp only[jq,Bool.and_eq_true,beq_iff_eq] at hp;obtain⟨I,h3⟩:=hp;have ea:=i0.TB;have a2:i∈Region.ready .any ops (dT ops.size done):=by rw[I];exact List.mem_singleton.2 rfl
 refine⟨λh0=>(by rw[h0] at I;cases I),λj hj=>?_⟩;rw[I] at hj;have a3:j=i:=GO hj;subst a3;unfold wpOp;simp only[hi,hw a ea,Bool.false_eq_true,if_false];exact⟨λp hp=>A p (List.mem_filter.1 hp).1,h hK h3 hs (J.set a2) θ aa _ w _ (i0.put hd undef) (λp hp=>a4 p (List.mem_filter.1 hp).1) (λp hp=>A p (List.mem_filter.1 hp).1)⟩
def GP.go{s:K3}{A:Option Tmp}{op:Op}{ty:TypeId}{pos:String}{af:Array Edge}(hi:ops[s.idx]? = some ⟨A,op,ty,pos,af,none⟩)(h:δ P N ops done s y5 A op ty E8 env L Ρ):GP P N ops done (s::y5) E8 env L Ρ :=
 h pos af none hi λ_ _=>rfl
def oV{j t:Nat}{v:Value}(hj:(ops[j]?).bind (·.dst)=some t)(ht:env.lookup t=some v){a:Act}(ea:NY N env a):yielded ops a.tmps j=match v with | .bool b=>some b|_=>none:=by
 unfold yielded;rw[hj];simp only[Option.bind_some,ea.at_ t _ ht];cases v<;>rfl
def GP.Vf{t:Nat}{v:Value}(ht:env.lookup t=some v)(h:GP P N ops done y5 E8 ((t,v)::env) L Ρ):GP P N ops done y5 E8 env L Ρ :=
 λhK hp hs A θ R a w S i J a2=>h hK hp hs A θ R a w S (i.less (On.cons ht (On.refl _)) (E.refl _)) J a2
def GP.guard{s:K3}{Ξ:Nat}{op:Op}{ty:TypeId}{pos:String}{af:Array Edge}{j t:Nat}{b c:Bool}(hi:ops[s.idx]? = some ⟨some Ξ,op,ty,pos,af,some (j,b)⟩)(hj:(ops[j]?).bind (·.dst)=some t)(ht:env.lookup t=some (.bool c))(hd:Ξ<N)
  (U:c=b->δ P N ops done s y5 (some Ξ) op ty E8 env L Ρ) (hn:c≠b->GP P N ops (s.idx::done) y5 E8 ((Ξ,undef)::env) L Ρ):GP P N ops done (s::y5) E8 env L Ρ:=by
 by_cases A:c=b
 .subst A;exact U rfl pos af _ hi λa ea=>by simp[Region.wanted,oV hj ht ea]
 .have hw:∀a,NY N env a->Region.wanted ⟨some Ξ,op,ty,pos,af,some (j,b)⟩ (yielded ops a.tmps)=false:=λa ea=>by
   simp[Region.wanted,oV hj ht ea,A]
  cases s with
  | ev i=>exact GP.c8 hi hd hw (hn A)
  | ef i=>exact GP.a8 hi hd hw (hn A)
def GP.c9{s:K3}{Ξ:Nat}{op:Op}{ty:TypeId}{pos:String}{af:Array Edge}{j t:Nat}{b:Bool}(hi:ops[s.idx]? = some ⟨some Ξ,op,ty,pos,af,some (j,b)⟩)(hj:(ops[j]?).bind (·.dst)=some t)(ht:env.lookup t=some undef)(hd:Ξ<N)
  (hn:GP P N ops (s.idx::done) y5 E8 ((Ξ,undef)::env) L Ρ):GP P N ops done (s::y5) E8 env L Ρ:=by
 have hw:∀a,NY N env a->Region.wanted ⟨some Ξ,op,ty,pos,af,some (j,b)⟩ (yielded ops a.tmps)=false:=λa ea=>by
  simp[Region.wanted,oV hj ht ea,undef]
 cases s with
 | ev i=>exact GP.c8 hi hd hw hn
 | ef i=>exact GP.a8 hi hd hw hn
def GP.d7{s:K3}{Ξ:Nat}{op:Op}{ty:TypeId}{pos:String}{af:Array Edge}{j t:Nat}{c:Bool}(hi:ops[s.idx]? = some ⟨some Ξ,op,ty,pos,af,some (j,true)⟩)(hj:(ops[j]?).bind (·.dst)=some t)(ht:env.lookup t=some (.bool c))(hd:Ξ<N)
  (h:GB c (δ P N ops done s y5 (some Ξ) op ty E8 env L Ρ) (GP P N ops done (s::y5) E8 ((t,.bool true)::env) L Ρ) (GP P N ops (s.idx::done) y5 E8 ((Ξ,undef)::env) L Ρ) (GP P N ops done (s::y5) E8 ((t,.bool false)::env) L Ρ)):GP P N ops done (s::y5) E8 env L Ρ:=by
 cases c with
 | true =>
  rcases h.1 rfl with h|h
  .exact GP.guard hi hj ht hd (λ_=>h) (λh=>iJ rfl h)
  .exact h.Vf ht
 | false =>
  rcases h.2 rfl with h|h
  .exact GP.guard hi hj ht hd (λh=>by cases h) (λ_=>h)
  .exact h.Vf ht
def GP.d8{s:K3}{Ξ:Nat}{op:Op}{ty:TypeId}{pos:String}{af:Array Edge}{j t:Nat}{c:Bool}(hi:ops[s.idx]? = some ⟨some Ξ,op,ty,pos,af,some (j,false)⟩)(hj:(ops[j]?).bind (·.dst)=some t)(ht:env.lookup t=some (.bool c))(hd:Ξ<N)
  (h:GB c (GP P N ops (s.idx::done) y5 E8 ((Ξ,undef)::env) L Ρ) (GP P N ops done (s::y5) E8 ((t,.bool true)::env) L Ρ) (δ P N ops done s y5 (some Ξ) op ty E8 env L Ρ) (GP P N ops done (s::y5) E8 ((t,.bool false)::env) L Ρ)):GP P N ops done (s::y5) E8 env L Ρ:=by
 cases c with
 | true =>
  rcases h.1 rfl with h|h
  .exact GP.guard hi hj ht hd (λh=>by cases h) (λ_=>h)
  .exact h.Vf ht
 | false =>
  rcases h.2 rfl with h|h
  .exact GP.guard hi hj ht hd (λ_=>h) (λh=>iJ rfl h)
  .exact h.Vf ht
def GP.Q2{A : Env}(he:On env A)(h:GP P N ops done y5 E8 A L Ρ):GP P N ops done y5 E8 env L Ρ :=
 λhK hp hs J θ R a w S i a2 a3=>h hK hp hs J θ R a w S (i.less he (E.refl _)) a2 a3
end gp
end
section
section ops
variable {P:Program}{N:Nat}{env:Env}{L:Ι}{Ρ:F8}{ty:TypeId}
def rf(pl:List (Nat×Nat)):List (Nat×Value)->χ->Option (χ)
 | [],z=>some z
 | (i,v)::Δ,z=>match pl[i]?,v.oneCell' with
  | some (off,1),true=>pT z off v λz'=>rf pl Δ z'
  | _,_=>none
def uS(pl:List (Nat×Nat)):∀(vs:List (Nat×Value)) (z cs:χ),rf pl vs z=some cs->Instr.fill (λi=>pl.toArray[i]?) z.toArray vs=some cs.toArray
 | [],z,cs,h=>by simp[rf] at h;simp[Instr.fill,h]
 | (i,v)::Δ,z,cs,h=>by
  simp only[rf] at h;split at h
  .rename_i off I Q;obtain⟨h3,h4⟩:=tI _ _ _ _ _ h;have ih:=uS pl Δ _ _ h4;have A:v.cells=#[v]:=by cases v<;>first|rfl|cases Q
   simp only[Instr.fill,List.getElem?_toArray,I,A];have:¬(off+1>z.length):=by omega
   simp[this] at ih ⊢;exact ih
  .cases h
def oo{P:Program}{w:World}:∀(fs:List Field) (pl:List (Nat×Nat)),fs.map (λfd=>(fd.offset,(P.info? fd.type).map (·.size)))=pl.map (λp=>(p.1,some p.2)) ->
  (fs.mapM λ (f:Field)=>do pure (f.offset,<-sizeOf f.type)).run P w=.ok pl w
 | [],pl,h=>by
  have:pl=[]:=by simpa using h.symm
  simp[this]
 | f::fs,[],h=>by simp at h
 | f::fs,p::pl,h=>by
  simp only[List.map_cons,List.cons.injEq,Prod.mk.injEq] at h;obtain⟨⟨I,Q⟩,h3⟩:=h;cases hi:P.info? f.type with
  | none=>rw[hi] at Q;cases Q
  | some i =>
   rw[hi] at Q;simp at Q;have ih:=oo (P:=P) (w:=w) fs pl h3;simp at ih;simp[List.mapM_cons,sizeOf,typeInfo,hi,Q];simp[sizeOf,typeInfo] at ih;simp[ih,I]
def Z.build{t:TypeId}{ps:Array (Nat×Operand)}{vs:List (Nat×Value)}{pl:List (Nat×Nat)}{z cs:χ}[hs:OB P t pl][hz:Nj P t z](hv:kM env ps.toList=some vs)(hc:rf pl vs z=some cs):Z P L env (.build t ps) ty (.agg cs.toArray) :=
 Z.mk (λθ R ρ w ea s _ _ _ _=>by
  obtain⟨z0,I,Q⟩:=hz.run w;have he:=hs.eq;cases hu:P.underlying t with
  | none=>rw[hu] at he;cases he
  | some VT =>
   rw[hu] at he;cases VT<;>simp[sP] at he;rename_i fs;have hm:=oo (P:=P) (w:=w) fs.toList pl (by simpa using he)
   have A:ps.map (λp=>(p.1,ρ p.2))=vs.toArray:=by
    apply Array.ext';simpa using ea.pairs ps.toList vs hv
   have J : (fs.mapM λ (f:Field)=>do pure (f.offset,<-sizeOf f.type)).run P w=.ok pl.toArray w:=by
    have e:fs=fs.toList.toArray:=by simp
    rw[e,List.mapM_toArray];simp only[Sem.run_map,hm,Result.andThen_ok]
   have hf:=uS pl vs z cs hc;simp only[execOp,A,Instr.build,Sem.run_bind,I,Result.andThen_ok,run_underlying hu,J,Q];simp only[hf];simp)
def Vg:χ->χ->(χ->Option (χ))->Option (χ)
 | [],Δ,k=>k Δ
 | c::l,Δ,k=>Vg l Δ λx=>k (c::x)
def TE(sz:Nat):List (Nat×Value)->Nat->(χ->Option (χ))->Option (χ)
 | [],_,k=>k []
 | (j,.agg c)::Δ,i,k=>match Nat.beq j i,Nat.beq c.size sz with
  | true,true=>TE sz Δ (i+1) λx=>Vg c.toList x k
  | _,_=>none
 | (j,v)::Δ,i,k=>match Nat.beq j i,Nat.beq 1 sz with
  | true,true=>TE sz Δ (i+1) λx=>k (v::x)
  | _,_=>none
def CY:∀(a Δ:χ) (k:χ->Option (χ)),Vg a Δ k=k (a++Δ)
 | [],_,_=>rfl
 | c::l,Δ,k=>by simp[Vg,CY l Δ]
def CD(sz:Nat):∀(vs:List (Nat×Value)) (i:Nat) (k:χ->Option (χ)) (Δ:χ),TE sz vs i k=some Δ ->
  (∀p∈vs,p.2.cells.size=sz)/\vs.map (·.1)=List.range' i vs.length/\k (vs.flatMap λp=>p.2.cells.toList)=some Δ
 | [],_,k,Δ,h=>by simpa [TE] using h
 | (j,v)::vs,i,k,Δ,h=>by
  have key:∀(h' : (match Nat.beq j i,Nat.beq v.cells.size sz with|true,true=>TE sz vs (i+1) (λx=>k (v.cells.toList++x))|_,_=>none)=some Δ),
    (∀p∈(j,v)::vs,p.2.cells.size=sz)/\((j,v)::vs).map (·.1)=List.range' i ((j,v)::vs).length/\k (((j,v)::vs).flatMap λp=>p.2.cells.toList)=some Δ:=by
   intro h';split at h'
   .rename_i I Q;obtain⟨J,a2,a3⟩:=CD sz vs (i+1) _ Δ h';have e1:j=i:=Nat.eq_of_beq_eq_true I;have e2:v.cells.size=sz:=Nat.eq_of_beq_eq_true Q;refine⟨?_,?_,?_⟩
    .intro p hp;rcases L7 hp with rfl|hp
     .exact e2
     .exact J p hp
    .simp[e1,List.range'_succ,a2]
    .simpa using a3
   .cases h'
  apply key;cases v<;>first|(simpa [TE,CY,Value.cells] using h)
def uO:∀(l:χ) (off k:Nat) (acc:χ),off+k+l.length<=acc.length ->
  ((l.zipIdx k).foldl (λ (cs:Array Value) (p:Value×Nat)=>cs.setIfInBounds (off+p.2) p.1) acc.toArray)=(acc.take (off+k)++l++acc.drop (off+k+l.length)).toArray
 | [],off,k,acc,h=>by simp
 | v::l,off,k,acc,h=>by
  simp only[List.zipIdx_cons,List.foldl_cons,List.setIfInBounds_toArray];rw[uO l off (k+1) _ (by simp at h ⊢;omega)];have A:off+k<acc.length:=by simp at h;omega
  congr 1
  have e1:(acc.set (off+k) v).take (off+(k+1))=acc.take (off+k)++[v]:=by
   rw[show off+(k+1)=off+k+1 by omega,List.take_succ_eq_append_getElem (by simpa using A),List.take_set_of_le (Nat.le_refl _)];simp
  have e2:(acc.set (off+k) v).drop (off+(k+1)+l.length)=acc.drop (off+k+(l.length+1)):=by
   rw[List.drop_set_of_lt (by omega)];congr 1;omega
  rw[e1,e2];simp
def zP(sz:Nat):∀(vs:List (Nat×Value)) (i:Nat) (acc:χ),(∀p∈vs,p.2.cells.size=sz)->vs.map (·.1)=List.range' i vs.length->acc.length=(i+vs.length)*sz ->
  Instr.fill (λi=>some (i*sz,sz)) acc.toArray vs=some (acc.take (i*sz)++vs.flatMap λp=>p.2.cells.toList).toArray
 | [],i,acc,_,_,h=>by
  have:acc.take (i*sz)=acc:=List.take_of_length_le (by simp at h;omega);simp[Instr.fill,this]
 | (j,v)::vs,i,acc,I,Q,h3=>by
  simp only[List.map_cons,List.length_cons,List.range'_succ,List.cons.injEq] at Q;obtain⟨rfl,Q⟩:=Q;have hv:=I (j,v) List.mem_cons_self;simp only at hv
  have J:j*sz+sz<=acc.length:=by
   rw[h3];have h4:(j+1)*sz<=(j+((j,v)::vs).length)*sz:=Nat.mul_le_mul_right _ (by simp);have h5:=Nat.add_mul j 1 sz;omega
  simp only[Instr.fill,hv,ne_eq,not_true_eq_false,List.size_toArray];have a2:¬(j*sz+sz>acc.length):=by omega
  simp only[decide_false,Bool.false_or,gt_iff_lt,decide_eq_true_eq];rw[Ο (by omega)]
  have A:(v.cells.zipIdx.foldl (λcs x=>match x with|(c,k)=>cs.setIfInBounds (j*sz+k) c) acc.toArray)=(acc.take (j*sz)++v.cells.toList++acc.drop (j*sz+sz)).toArray:=by
   have:=uO v.cells.toList (j*sz) 0 acc (by simp[hv];omega)
   rw[<-Array.foldl_toList];simp only[Array.toList_zipIdx];simp only[Nat.add_zero,Array.length_toList,hv] at this;exact this
  rw[A]
  rw[zP sz vs (j+1) _ (λp hp=>I p (List.mem_cons_of_mem _ hp)) Q (by
   simp only[List.length_append,List.length_take,Array.length_toList,hv,List.length_drop];simp only[List.length_cons] at h3;have e:(j+1+vs.length)*sz=(j+(vs.length+1))*sz:=by congr 1;omega
   rw[e,<-h3];omega)]
  have e1:(acc.take (j*sz)++v.cells.toList++acc.drop (j*sz+sz)).take ((j+1)*sz)=acc.take (j*sz)++v.cells.toList:=by
   rw[List.take_append_of_le_length (by simp[hv,Nat.add_mul];omega)];apply List.take_of_length_le;simp[hv,Nat.add_mul];omega
  rw[e1];simp
def Ef.lit{t:TypeId}{len:Nat}{ps:Array (Nat×Operand)}{vs:List (Nat×Value)}{ζ sz bb:Nat}{z cs:χ}[ht:M9 P t ζ sz bb z](hv:kM env ps.toList=some vs)(hn:vs.length=len)(T:len*sz<=16777216)(hc:TE sz vs 0 some=some cs)
  : Ef P L env (.buildSlice t len ps) ty (λv Ε=>∃b,v=.slice (some ⟨b,0,none⟩) len len/\Ε = obj b ζ cs::L):=by
 obtain⟨J,a2,a3⟩:=CD sz vs 0 some cs hc;refine Ef.buildSlice hv T ?_;simp only[sV,Option.map_eq_some_iff];have e:(Array.range (len*sz)).map (z.toArray[· % z.length]!)=((List.range (len*sz)).map (z.toArray[· % z.length]!)).toArray:=by apply Array.ext';simp
 rw[e,zP sz vs 0 _ J (by rw[a2]) (by simp[hn])];simp only[Option.some.injEq] at a3;exact⟨_,rfl,by simp[a3]⟩
def NJ(ad:OA)(cap sz k:Nat):OA:=if cap=k then ad else ad.map (·.add (k*sz))
def Z.p9{t:TypeId}{x hi:Operand}{ad:OA}{n c ζ sz bb:Nat}{z:χ}{k:IntKind}{j:Int}[ht:M9 P t ζ sz bb z](M:bG env x=some (.slice ad n c))(hh:bG env hi=some (.int k j))(h0:0<=j)(I:j<=c):Z P L env (.slice t x none (some hi) none) ty (.slice ad j.toNat c) :=
 Z.mk (λ_ _ _ w ea _ _ _ _ _=>by
  obtain⟨ii,z0,i1,i2,i3,i4,i5⟩:=ht.Γ;simp[execOp,aI ea M,aI ea hh,Instr.sliceAt,Instr.slice,run_underlying ht.under,Instr.sliceBounds,Instr.sliceBound,asIntOf,h0,I,sizeOf,typeInfo,i1];intro;cases ad<;>simp[Addr.add])
def Z.n8{t:TypeId}{x lo:Operand}{ad:OA}{n c ζ sz bb:Nat}{z:χ}{k:IntKind}{j:Int}[ht:M9 P t ζ sz bb z](M:bG env x=some (.slice ad n c))(T:bG env lo=some (.int k j))(h0:0<=j)(I:j<=n):Z P L env (.slice t x (some lo) none none) ty (.slice (NJ ad c sz j.toNat) (n - j.toNat) (c - j.toNat)) :=
 Z.mk (λ_ _ _ w ea _ _ _ _ _=>by
  obtain⟨ii,z0,i1,i2,i3,i4,i5⟩:=ht.Γ;simp[execOp,aI ea M,aI ea T,Instr.sliceAt,Instr.slice,run_underlying ht.under,Instr.sliceBounds,Instr.sliceBound,asIntOf,h0,I,sizeOf,typeInfo,i1,i4,NJ])
def Z.p5{t:TypeId}{x lo hi:Operand}{ad:OA}{n c ζ sz bb:Nat}{z:χ}{k k' : IntKind}{i j:Int}[ht:M9 P t ζ sz bb z](M:bG env x=some (.slice ad n c))(T:bG env lo=some (.int k i))(hh:bG env hi=some (.int k' j))(h0:0<=i)(I:i<=j)(Q:j<=c):Z P L env (.slice t x (some lo) (some hi) none) ty (.slice (NJ ad c sz i.toNat) (j.toNat - i.toNat) (c - i.toNat)) :=
 Z.mk (λ_ _ _ w ea _ _ _ _ _=>by
  obtain⟨ii,z0,i1,i2,i3,i4,i5⟩:=ht.Γ;have hj:0<=j:=by omega
  have J:i<=(j.toNat:Int):=by omega
  have A : i<=max j 0:=by omega
  simp[execOp,aI ea M,aI ea T,aI ea hh,Instr.sliceAt,Instr.slice,run_underlying ht.under,Instr.sliceBounds,Instr.sliceBound,asIntOf,h0,hj,Q,A,sizeOf,typeInfo,i1,i4,NJ])
def RW.drop{α:Type}{w:World}{Η:α->χ}{sz:Nat}{ad:OA}{G:List α}(h:RW w Η sz ad G){cap:Nat}(hc:G.length<=cap)(k:Nat):RW w Η sz (NJ ad cap sz k) (G.drop k):=by
 obtain⟨I,Q⟩:=h;refine⟨λx M=>I x (List.mem_of_mem_drop M),?_⟩;by_cases hk:G.length<=k
 .exact .inl (List.drop_eq_nil_of_le hk)
 .rcases Q with Q|⟨a,rfl,h3⟩
  .subst Q;simp at hk
  .refine .inr ⟨a.add (k*sz),?_,?_⟩
   .have:¬cap=k:=by omega
    simp[NJ,this]
   .intro i v hv
    have e:(a.add (k*sz)).add i=a.add (k*sz+i):=by
     unfold Addr.add;(repeat' split)<;>first|rfl|omega|(simp;omega)|(simp_all;done)
    rw[e];apply h3;have A:G.flatMap Η=(G.take k).flatMap Η++(G.drop k).flatMap Η:=by rw[<-List.flatMap_append,List.take_append_drop]
    have J:((G.take k).flatMap Η).length=k*sz:=by
     rw[dd (λx M=>I x (List.mem_of_mem_take M)),List.length_take,Nat.min_eq_left (by omega)]
    rw[A,List.getElem?_append_right (by omega),J];rw[show k*sz+i - k*sz=i by omega];exact hv
def RW.take{α:Type}{w:World}{Η:α->χ}{sz:Nat}{ad:OA}{G:List α}(h:RW w Η sz ad G)(k:Nat):RW w Η sz ad (G.take k):=by
 obtain⟨I,Q⟩:=h;refine⟨λx M=>I x (List.mem_of_mem_take M),?_⟩;rcases Q with Q|⟨a,rfl,h3⟩
 .exact .inl (by simp[Q])
 .refine .inr ⟨a,rfl,λi v hv=>h3 i v ?_⟩;have A:G.flatMap Η=(G.take k).flatMap Η++(G.drop k).flatMap Η:=by rw[<-List.flatMap_append,List.take_append_drop]
  rw[A,List.getElem?_append_left (List.getElem?_eq_some_iff.1 hv).1];exact hv
theorem F5.drop{α:Type}{Η:α->χ}{sz:Nat}{ad:OA}{G:List α}(h:F5 L ad α Η sz G){cap:Nat}(hc:G.length<=cap)(k:Nat):F5 L (NJ ad cap sz k) α Η sz (G.drop k):=⟨λθ R w s=>(h.rd θ R w s).drop hc k⟩
theorem F5.take{α:Type}{Η:α->χ}{sz:Nat}{ad:OA}{G:List α}(h:F5 L ad α Η sz G)(k:Nat):F5 L ad α Η sz (G.take k):=⟨λθ R w s=>(h.rd θ R w s).take k⟩
def omap{α:Type}(Η:α->Value)(b:Nat)(m:List (Int×α)):HP:=λ_ h =>
 ∃es A,h b=some (.map es A)/\es.toList.map (λe=>(e.key,e.val))=m.map (λp=>(Value.int .i64 p.1,Η p.2))/\(m.map (·.1)).Nodup/\es.size<=A/\(∀e∈es,e.born<A)/\(es.toList.map (·.born)).Nodup
class WV (L:Ι) (b:Nat) (α:outParam Type) (Η:outParam (α->Value)) (m:outParam (List (Int×α))) (R:outParam (Ι)):Prop where
 perm:L.Perm (omap Η b m::R)
def UK{α:Type}(m:List (Int×α))(k:Int)(a:α):List (Int×α):=if m.any (λp=>p.1 == k) then m.map (λp=>if p.1=k then(k,a) else p) else m++[(k,a)]
def Ud{α:Type}(m:List (Int×α))(k:Int):List (Int×α):=m.filter (λp=>!(p.1 == k))
def Sat.WW{α:Type}{θ:Th}{Η:α->Value}{b:Nat}{m:List (Int×α)}{L:Ι}{w:World}(s:Sat θ (omap Η b m::L) w) :
  ∃es A,es.toList.map (λe=>(e.key,e.val))=m.map (λp=>(Value.int .i64 p.1,Η p.2))/\(m.map (·.1)).Nodup/\es.size<=A/\(∀e∈es,e.born<A)/\(es.toList.map (·.born)).Nodup/\Sat θ (sh b (.map es A)::L) w:=by
 obtain⟨ok,ι,h,a,b1,c,G6,E4,D5,d1,d2,d3,d4,⟨es,A,e1,e2,e3,e4,e5,e6⟩,d6⟩:=s;exact⟨es,A,e2,e3,e4,e5,e6,ok,ι,h,a,b1,c,G6,E4,D5,d1,d2,d3,d4,e1,d6⟩
def Sat.c9{α:Type}{θ:Th}{Η:α->Value}{b:Nat}{m:List (Int×α)}{L:Ι}{w:World}{es:Array MapEntry}{A:Nat}(s:Sat θ (sh b (.map es A)::L) w)
  (I:es.toList.map (λe=>(e.key,e.val))=m.map (λp=>(Value.int .i64 p.1,Η p.2))) (Q:(m.map (·.1)).Nodup) (h3:es.size<=A) (h4:∀e∈es,e.born<A) (h5:(es.toList.map (·.born)).Nodup):Sat θ (omap Η b m::L) w:=by
 obtain⟨ok,ι,h,a,b1,c,G6,E4,D5,d1,d2,d3,d4,d5,d6⟩:=s;exact⟨ok,ι,h,a,b1,c,G6,E4,D5,d1,d2,d3,d4,⟨es,A,d5,I,Q,h3,h4,h5⟩,d6⟩
def Ef.makeMap{t:TypeId}{α:Type}(Η:α->Value):Ef P L env (.makeMap t none) ty (λv Ε=>∃b,v=.map (some b)/\Ε = omap Η b []::L) :=
 Ef.val (λθ R a w ea s A pos af g=>⟨_,w.alloc (.map #[] 0),_,by simp[execOp,Instr.makeMap],⟨_,rfl,rfl⟩,Sat.c9 s.alloc (by simp) (by simp) (by simp) (by simp) (by simp)⟩)
def oy{α:Type}{Η:α->Value}{kk:IntKind}(k:Int):∀(es:List MapEntry) (m:List (Int×α)) (i:Nat),es.map (λe=>(e.key,e.val))=m.map (λp=>(Value.int .i64 p.1,Η p.2)) ->
  Instr.findNow (.int kk) (.int .i64 k) es i=some ((m.findIdx? (λp=>p.1 == k)).map λj=>(i+j,(m[j]?.map (λp=>Η p.2)).getD undef))
 | [],[],i,_=>by simp[Instr.findNow]
 | [],_::_,_,h=>by simp at h
 | _::_,[],_,h=>by simp at h
 | e::es,p::m,i,h=>by
  simp only[List.map_cons,List.cons.injEq,Prod.mk.injEq] at h;obtain⟨⟨I,Q⟩,h3⟩:=h;have ih:=oy (kk:=kk) k es m (i+1) h3;simp only[Instr.findNow,I,Instr.sameNow,if_true];by_cases hk:k=p.1
  .subst hk;simp[List.findIdx?_cons,Q]
  .have hb:(k == p.1)=false:=by simpa using hk
   have A : (p.1 == k)=false:=by simpa using λh=>hk h.symm
   simp only[hb,ih,List.findIdx?_cons,A];cases List.findIdx? (λp=>p.1 == k) m<;>simp;omega
def lj{t:TypeId}{k:IntKind}{kk:IntKind}{n:Int}{w:World}{b:Bool}(h:P.underlying t=some (.int kk)):(Instr.checkKey b 10000 t (.int k n)).run P w=.ok () w:=by
 have:∀m,(Instr.checkKey b (m+1) t (.int k n)).run P w=.ok () w:=λm=>by simp[Instr.checkKey,run_underlying h]
 exact this 9999
class WY (P:Program) (an:Nat) (ζ:outParam Nat) (z:outParam Value):Prop where
 ok:∃Ρ k,P.underlying an=some (.map Ρ ζ)/\P.underlying Ρ=some (.int k)/\(P.info? ζ).map (·.zero)=some (some z)
def iD{w:World}{b:Nat}{es A : Array MapEntry}{c c' : Nat}(hb:w.heap[b]? = some (.map es c)):(setObj b (.map A c')).run P w=.ok () { w with heap:=w.heap.setIfInBounds b (.map A c') }:=by simp[setObj,Sem.run,hb]
def Sat.Sm{θ:Th}{b:Nat}{o o' : Obj}{L:Ι}{w:World}(s:Sat θ (sh b o::L) w):Sat θ (sh b o'::L) { w with heap:=w.heap.setIfInBounds b o' }:=by
 have hb:=s.M8;have A:=(Array.getElem?_eq_some_iff.1 hb).1;refine s.update ⟨s.1.tape,s.1.os,s.1.output,s.1.drawn⟩ ?_ (λk x hk M=>?_)
 .simp[A]
 .simp only;rw[Array.getElem?_setIfInBounds_ne (Ne.symm hk)];exact M
def Hx{α:Type}{m:List (Int×α)}{k:Int}{a:α}(h:(m.map (·.1)).Nodup):((UK m k a).map (·.1)).Nodup:=by
 unfold UK;split
 .rw[List.map_map]
  have:(λp:Int×α=>(if p.1=k then(k,a) else p).1)=(·.1):=by
   funext p;split
   .rename_i h;exact h.symm
   .rfl
  show((m.map ((·.1) ∘ λp=>if p.1=k then(k,a) else p))).Nodup;rw[show((·.1) ∘ λp:Int×α=>if p.1=k then(k,a) else p)=(λp:Int×α=>(if p.1=k then(k,a) else p).1) from rfl,this];exact h
 .rename_i hn;rw[List.map_append,List.nodup_append];refine⟨h,by simp,?_⟩;intro x M y U;simp at U;subst U;rintro rfl;apply hn;obtain⟨p,hp,rfl⟩:=H8 M;exact List.any_eq_true.2 ⟨p,hp,by simp⟩
def vP{α:Type}{m:List (Int×α)}{k:Int}{j:Nat}(h:m.findIdx? (λp=>p.1 == k)=some j):m.any (λp=>p.1 == k)=true:=by
 obtain⟨A,I,_⟩:=List.findIdx?_eq_some_iff_getElem.1 h;exact List.any_eq_true.2 ⟨m[j],List.getElem_mem A,I⟩
def lZ{α:Type}{k:Int}{a:α}:∀{m:List (Int×α)} {j:Nat},(m.map (·.1)).Nodup->m.findIdx? (λp=>p.1 == k)=some j->m.map (λp=>if p.1=k then(k,a) else p)=m.set j (k,a)
 | [],j,_,h=>by simp at h
 | p::m,j,hn,h=>by
  simp only[List.map_cons,List.nodup_cons] at hn;rw[List.findIdx?_cons] at h;by_cases hk:p.1=k
  .simp[hk] at h;subst h;simp only[List.map_cons,hk,if_true,List.set_cons_zero,List.cons.injEq,true_and];rw[List.map_congr_left (g:=id),List.map_id];intro q hq;have:q.1≠k:=λe=>hn.1 (by rw[hk,<-e];exact List.mem_map_of_mem hq);simp[this]
  .have hb:(p.1 == k)=false:=by simpa using hk
   simp only[hb] at h;obtain⟨i,hi,rfl⟩:=Option.map_eq_some_iff.1 h;simp only[List.map_cons,hk,if_false,List.set_cons_succ,List.cons.injEq,true_and];exact lZ hn.2 hi
def Ef.mapUpdate{t:TypeId}{x y z' : Operand}{b ζ:Nat}{z v:Value}{α:Type}{Η:α->Value}{m:List (Int×α)}{G1:Ι}{k:Int}(e:α)[ht:WY P t ζ z][hp:WV L b α Η m G1](M:bG env x=some (.map (some b)))(U:bG env y=some (.int .i64 k))(hz:bG env z' = some v)(hv:v=Η e)
  : Ef P L env (.mapUpdate t x y z') ty (λ_ Ε=>Ε = omap Η b (UK m k e)::G1) :=
 Ef.skip (λθ R a w ea s b3 pos af g=>by
  subst hv;obtain⟨Ρ,kk,I,Q,h3⟩:=ht.ok;obtain⟨es,A,e1,e2,e3,e4,e5,s2⟩:=(s.perm (hp.perm.append_right R)).WW;have hb:=s2.M8;have hf:=oy (kk:=kk) k es.toList m 0 e1;have J:(getObj b).run P w=.ok (.map es A) w:=by simp[getObj,Sem.run,hb]
  have a9:=Hx (k:=k) (a:=e) e2;cases hj:m.findIdx? (λp=>p.1 == k) with
  | none =>
   rw[hj] at hf;simp only[Option.map_none] at hf
   have b1:m.any (λp=>p.1 == k)=false:=by
    rw[List.findIdx?_eq_none_iff] at hj;simpa using hj
   refine⟨_,_,?_,rfl,Sat.c9 (s2.Sm (o':=.map (es.push { key:=.int .i64 k,val:=Η e,born:=A }) (A+1))) ?_ a9 ?_ ?_ ?_⟩
   .simp[execOp,aI ea M,aI ea U,aI ea hz,Instr.mapUpdate,run_underlying I,J,lj Q,Instr.findKey,run_underlying Q,hf,iD hb]
   .simp[e1,UK,b1]
   .simp;omega
   .intro x M;rcases Array.mem_push.1 M with M|rfl
    .have:=e4 x M;omega
    .simp
   .simp only[Array.toList_push,List.map_append,List.map_cons,List.map_nil];rw[List.nodup_append];refine⟨e5,by simp,?_⟩;intro x M y U;simp at U;subst U;obtain⟨q,hq,rfl⟩:=H8 M;have:=e4 q (by simpa using hq)
    omega
  | some j =>
   rw[hj] at hf;simp only[Option.map_some,Nat.zero_add] at hf;have a4:=vP hj;have a6:=lZ (a:=e) e2 hj;obtain⟨a3,a7,_⟩:=List.findIdx?_eq_some_iff_getElem.1 hj
   have b4:es.size=m.length:=by
    have:=congrArg List.length e1
    simpa using this
   have a5:((es[j]?).map (·.key)).getD (Value.int .i64 k)=.int .i64 k:=by
    have h5:=congrArg (λl=>l[j]?) e1;simp only[List.getElem?_map,List.getElem?_eq_getElem a3,Array.getElem?_toList] at h5;rw[Array.getElem?_eq_getElem (by omega)] at h5 ⊢;simp at h5 ⊢;rw[h5.1];simp at a7;rw[a7]
   have b2:(Instr.keyThatStays (((es[j]?).map (·.key)).getD (Value.int .i64 k)) (.int .i64 k)).run P w=.ok (.int .i64 k) w:=by
    rw[a5]
    have:Instr.sameBits 10000 (.int .i64 k) (.int .i64 k)=true:=by
     show Instr.sameBits (9999+1) (.int .i64 k) (.int .i64 k)=true;simp[Instr.sameBits]
    simp[Instr.keyThatStays,this]
   refine⟨_,_,?_,rfl,Sat.c9 (s2.Sm (o':=.map (es.modify j λx=>{ x with key:=.int .i64 k,val:=Η e }) A)) ?_ a9 ?_ ?_ ?_⟩
   .simp[execOp,aI ea M,aI ea U,aI ea hz,Instr.mapUpdate,run_underlying I,J,lj Q,Instr.findKey,run_underlying Q,hf,b2,iD hb]
   .simp only[UK,a4,if_true,a6];rw[Array.toList_modify];apply List.ext_getElem?;intro i;have h5:=congrArg (λl=>l[i]?) e1;simp only[List.getElem?_map] at h5;simp only[List.getElem?_map,List.getElem?_modify,List.getElem?_set];by_cases a2:j=i
    .subst a2;have b0:j<es.toList.length:=by simp;omega
     simp[a3,List.getElem?_eq_getElem b0]
    .simp only[a2,if_false];cases hq:es.toList[i]? with
     | none=>rw[hq] at h5;simpa using h5
     | some q=>rw[hq] at h5;simpa using h5
   .simpa using e3
   .intro x M;obtain⟨i,hi,rfl⟩:=Array.mem_iff_getElem.1 M;rw[Array.getElem_modify];have h6:es[i]'(by simpa using hi)∈es:=Array.getElem_mem _;split
    .exact e4 (es[i]'(by simpa using hi)) h6
    .exact e4 _ h6
   .have:(es.modify j λx=>{ x with key:=.int .i64 k,val:=Η e }).toList.map (·.born)=es.toList.map (·.born):=by
     rw[Array.toList_modify];apply List.ext_getElem?;intro i;simp only[List.getElem?_map,List.getElem?_modify];by_cases a2:j=i
     .subst a2;cases es.toList[j]?<;>simp
     .simp[a2]
    rw[this];exact e5)
def Ao{α:Type}{k:Int}:∀{m:List (Int×α)} {j:Nat},(m.map (·.1)).Nodup->m.findIdx? (λp=>p.1 == k)=some j->Ud m k=m.eraseIdx j
 | [],j,_,h=>by simp at h
 | p::m,j,hn,h=>by
  simp only[List.map_cons,List.nodup_cons] at hn;rw[List.findIdx?_cons] at h;by_cases hk:p.1=k
  .simp[hk] at h;subst h;simp only[Ud,List.filter_cons,hk,beq_self_eq_true,Bool.not_true,Bool.false_eq_true,if_false,List.eraseIdx_zero,List.tail_cons];apply List.filter_eq_self.2;intro q hq;have:q.1≠k:=λe=>hn.1 (by rw[hk,<-e];exact List.mem_map_of_mem hq);simp[this]
  .have hb:(p.1 == k)=false:=by simpa using hk
   simp only[hb] at h;obtain⟨i,hi,rfl⟩:=Option.map_eq_some_iff.1 h;have ih:=Ao hn.2 hi;simp only[Ud,List.filter_cons,hb,Bool.not_false,if_true,List.eraseIdx_cons_succ,List.cons.injEq,true_and];exact ih
def jN{β γ:Type}(f:β->γ):∀(l:List β) (j:Nat),(l.eraseIdx j).map f=(l.map f).eraseIdx j
 | [],j=>by simp
 | x::l,0=>by simp
 | x::l,j+1=>by simp[jN f l j]
def Ef.delete{t kt:TypeId}{x y:Operand}{b ζ:Nat}{z:Value}{α:Type}{Η:α->Value}{m:List (Int×α)}{G1:Ι}{k:Int}[ht:WY P t ζ z][hp:WV L b α Η m G1](M:bG env x=some (.map (some b)))(U:bG env y=some (.int .i64 k))
  : Ef P L env (.call { callee:=.builtin .delete,args:=#[x,y],argTypes:=#[t,kt] }) ty (λ_ Ε=>Ε = omap Η b (Ud m k)::G1) :=
 Ef.val (λθ R a w ea s a7 pos af g=>by
  obtain⟨Ρ,kk,I,Q,h3⟩:=ht.ok;obtain⟨es,A,e1,e2,e3,e4,e5,s2⟩:=(s.perm (hp.perm.append_right R)).WW;have hb:=s2.M8;have hf:=oy (kk:=kk) k es.toList m 0 e1;have J:(getObj b).run P w=.ok (.map es A) w:=by simp[getObj,Sem.run,hb]
  have a5:((Ud m k).map (·.1)).Nodup:=e2.sublist ((List.filter_sublist).map _)
  have b0:es.size=m.length:=by
   have:=congrArg List.length e1
   simpa using this
  cases hj:m.findIdx? (λp=>p.1 == k) with
  | none =>
   rw[hj] at hf;simp only[Option.map_none] at hf;have a3:=List.findIdx?_eq_none_iff.1 hj;have he:Ud m k=m:=List.filter_eq_self.2 λp hp=>by simp[a3 p hp]
   refine⟨.tuple #[],_,_,?_,rfl,Sat.c9 (s2.Sm (o':=.map es A)) (by rw[he];exact e1) a5 e3 e4 e5⟩;simp[execOp,resolve,invoke,builtin,aI ea M,aI ea U,Builtin.delete_,run_underlying I,J,lj Q,Instr.findKey,run_underlying Q,hf,iD hb]
  | some j =>
   rw[hj] at hf;simp only[Option.map_some,Nat.zero_add] at hf;have a4:=Ao e2 hj;obtain⟨a6,a9,_⟩:=List.findIdx?_eq_some_iff_getElem.1 hj
   have a2:(es.eraseIdxIfInBounds j).toList=es.toList.eraseIdx j:=by
    simp[Array.eraseIdxIfInBounds,show j<es.size by omega]
   refine⟨.tuple #[],_,_,?_,rfl,Sat.c9 (s2.Sm (o':=.map (es.eraseIdxIfInBounds j) A)) ?_ a5 ?_ ?_ ?_⟩
   .simp[execOp,resolve,invoke,builtin,aI ea M,aI ea U,Builtin.delete_,run_underlying I,J,lj Q,Instr.findKey,run_underlying Q,hf,iD hb]
   .rw[a2,a4,jN,jN,e1]
   .have h7:(es.eraseIdxIfInBounds j).size=(es.toList.eraseIdx j).length:=by rw[<-a2,Array.length_toList]
    have h8:(es.toList.eraseIdx j).length<=es.toList.length:=List.length_eraseIdx_le es.toList j;have h9:es.toList.length=es.size:=Array.length_toList;omega
   .intro x M;have:x∈es.toList.eraseIdx j:=by rw[<-a2];exact Array.mem_toList_iff.2 M
    exact e4 x (by simpa using List.mem_of_mem_eraseIdx this)
   .rw[a2,jN];exact e5.sublist (List.eraseIdx_sublist _ _))
end ops
end
section
class TF (L:Ι) (Φ:HP) (R:outParam (Ι)):Prop where
 perm:L.Perm (Φ::R)
instance (Φ:HP)(L:Ι):TF (Φ::L) Φ L:=⟨List.Perm.refl _⟩
instance (Φ hx:HP)(L R:Ι)[h:TF L Φ R]:TF (hx::L) Φ (hx::R):=⟨(h.perm.cons hx).trans (List.Perm.swap _ _ _)⟩
def E.take{L R pre R' : Ι}{Φ:HP}[h:TF L Φ R](hr:E R (pre++R')):E L ((Φ::pre)++R'):=(E.perm h.perm).trans hr.cons
def E.m7{L R Ε : Ι}{Φ:HP}[h:TF L Φ R](hr:E R Ε):E L (Φ::Ε):=(E.perm h.perm).trans hr.cons
def Ef.d8{P:Program}{env:Env}{L:Ι}{f:FuncId}{G:Array Operand}{ats:Array TypeId}{ty:TypeId}{vs:χ}{post:Value->Ι->Prop}
  (c:Υ P f vs.toArray L post) (hv:fG env G.toList=some vs):Ef P L env (.call { callee:=.value (.func f),args:=G,argTypes:=ats }) ty post:=by
 have h:=Ef.call (R':=[]) (L:=L) (ats:=ats) (ty:=ty) c hv (by rw[List.append_nil];exact E.refl _);intro θ R a w o next F9 ha s I Q hn
 refine h θ R a w o next F9 ha s I Q ?_
 rintro v Ε dH ⟨L₁,hp,rfl⟩ s';rw[List.append_nil] at s';exact hn v L₁ dH hp s'
def E.mk{L Ε : Ι}(h:∀θ R w,Sat θ (L++R) w->Sat θ (Ε++R) w):E L Ε:=h
def E.sat{L Ε : Ι}(h:E L Ε){θ:Th}{R:Ι}{w:World}(s:Sat θ (L++R) w):Sat θ (Ε++R) w:=h θ R w s
def E.o7{Φ hx:HP}{L:Ι}(h:∀θ R w,Sat θ (Φ::R) w->Sat θ (hx::R) w):E (Φ::L) (hx::L):=λθ R w s=>h θ (L++R) w s
section at_
variable {P:Program}{N:Nat}{env:Env}{L:Ι}{Ρ:F8}{ty:TypeId}{v:Value}
def Z.u9{x:Operand}(h:Z P L env (.move x) ty v):Z P L env (.move x) ty v:=h
def Z.p8{x:Operand}(h:Z P L env (.assign x) ty v):Z P L env (.assign x) ty v:=h
def Z.u7{a b c:Operand}(h:Z P L env (.pick a b c) ty v):Z P L env (.pick a b c) ty v:=h
def Z.o7{x:Operand}{i:Nat}(h:Z P L env (.extract x i) ty v):Z P L env (.extract x i) ty v:=h
def Z.x7{o:BinOp}{t yt:TypeId}{x y:Operand}(h:Z P L env (.binOp o t x y yt) ty v):Z P L env (.binOp o t x y yt) ty v:=h
def Z.z8{o:UnOp}{t:TypeId}{x:Operand}(h:Z P L env (.unOp o t x) ty v):Z P L env (.unOp o t x) ty v:=h
def Z.m6{s t:TypeId}{x:Operand}(h:Z P L env (.convert s t x) ty v):Z P L env (.convert s t x) ty v:=h
def Z.x6{x:Operand}(h:Z P L env (.nilCheck x) ty v):Z P L env (.nilCheck x) ty v:=h
def Z.l7{s f:Nat}{x:Operand}(h:Z P L env (.fieldAddr s x f) ty v):Z P L env (.fieldAddr s x f) ty v:=h
def Z.o6{t:TypeId}{x:Operand}(h:Z P L env (.load t x) ty v):Z P L env (.load t x) ty v:=h
def Z.j8{t:TypeId}{x i:Operand}(h:Z P L env (.indexAddr t x i) ty v):Z P L env (.indexAddr t x i) ty v:=h
def Z.q8{t:TypeId}{ps:Array (Nat×Operand)}(h:Z P L env (.build t ps) ty v):Z P L env (.build t ps) ty v:=h
def Z.q7{t:TypeId}{x:Operand}{a b c:Option Operand}(h:Z P L env (.slice t x a b c) ty v):Z P L env (.slice t x a b c) ty v:=h
def Z.v7{c:Call}(h:Z P L env (.call c) ty v):Z P L env (.call c) ty v:=h
def Z.v6{fn:Fn}{fs cs:Array Operand}(h:Z P L env (.makeFunc fn fs cs) ty v):Z P L env (.makeFunc fn fs cs) ty v:=h
variable {ops:Array Oper}{cR:List Oper}{op:Op}{pos:String}{af:Array Edge}
theorem Y.a8{Ξ:Nat}(h:Y P N ops (⟨some Ξ,op,ty,pos,af,none⟩::cR) env L Ρ):Y P N ops (⟨some Ξ,op,ty,pos,af,none⟩::cR) env L Ρ:=h
def Y.g8(h:Y P N ops (⟨none,op,ty,pos,af,none⟩::cR) env L Ρ):Y P N ops (⟨none,op,ty,pos,af,none⟩::cR) env L Ρ:=h
def Y.d8{Ξ j:Nat}{b:Bool}(h:Y P N ops (⟨some Ξ,op,ty,pos,af,some (j,b)⟩::cR) env L Ρ):Y P N ops (⟨some Ξ,op,ty,pos,af,some (j,b)⟩::cR) env L Ρ:=h
variable {done:List Nat}{y5:List K3}{E8:List PE}{i:Nat}
def GP.d9{s:K3}(h:GP P N ops done (s::y5) E8 env L Ρ):GP P N ops done (s::y5) E8 env L Ρ:=h
def δ.c8{Ξ:Nat}(h:δ P N ops done (.ev i) y5 (some Ξ) op ty E8 env L Ρ):δ P N ops done (.ev i) y5 (some Ξ) op ty E8 env L Ρ:=h
def δ.c9{Ξ:Nat}(h:δ P N ops done (.ef i) y5 (some Ξ) op ty E8 env L Ρ):δ P N ops done (.ef i) y5 (some Ξ) op ty E8 env L Ρ:=h
theorem δ.c7(h:δ P N ops done (.ef i) y5 none op ty E8 env L Ρ):δ P N ops done (.ef i) y5 none op ty E8 env L Ρ:=h
theorem vi.a8{pe:PE}{ts acc:List PE}(h:vi P N ops done i y5 (pe::ts) acc env L Ρ):vi P N ops done i y5 (pe::ts) acc env L Ρ:=h
def Β.j6(r:Nat){l:Array Oper}{dr:Bool}{x y:Code}(h:Β P N (.seq (.seq (.region r l dr) x) y) env L Ρ):Β P N (.seq (.seq (.region r l dr) x) y) env L Ρ:=h
def Β.Z2(r:Nat){l:Array Oper}{dr:Bool}{y:Code}(h:Β P N (.seq (.region r l dr) y) env L Ρ):Β P N (.seq (.region r l dr) y) env L Ρ:=h
theorem Β.a8{r:Nat}{l:List Oper}(h:Β P N (.region r l.toArray true) env L Ρ):Β P N (.region r l.toArray true) env L Ρ:=h
