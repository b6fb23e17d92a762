/- Regions whose order is open: any order that the edges allow comes to what one plan of them comes to. Holds for any program. -/
import Derived.Test.YtlgpgjdggilkgaaGreatDoorErab
import Derived.OrdersHeld
set_option linter.all false
namespace Go.V
section any
variable {P:Program}{ops:Array Oper}{F8:Exit->Act->World->Prop}{md:Region.Mode}
inductive Pe (md:Region.Mode) (ops:Array Oper):Nat->Nat->Prop where
 | one {j i:Nat} {o:Oper} {e:Edge}:ops[j]? = some o->e∈o.after->Region.binds md e=true->e.on=i->Pe md ops j i
 | more {j i:Nat} {o:Oper} {e:Edge}:ops[j]? = some o->e∈o.after->Region.binds md e=true->Pe md ops e.on i->Pe md ops j i
def Mg(md:Region.Mode)(I:Array Oper)(r:Array Bool):Prop:=∀j o,I[j]? = some o->r.getD j false=true->∀e∈o.after,Region.binds md e=true->r.getD e.on false=true
def Mg.dep{r:Array Bool}(h:Mg md ops r){j i:Nat}(hd:Pe md ops j i)(hj:∀o,ops[j]? = some o->∀e∈o.after,Region.binds md e=true->r.getD e.on false=true):r.getD i false=true:=by
 induction hd with
 | one J U h3 h4=>subst h4;exact hj _ J _ U h3
 | more J U h3 _ ih=>exact ih λo ho e he hb=>h _ o ho (hj _ J _ U h3) e he hb
def Mg.set{r:Array Bool}(h:Mg md ops r){i:Nat}(hi:i∈Region.ready md ops r):Mg md ops (r.setIfInBounds i true):=by
 intro j o ho hj e he hb;obtain⟨_,oi,a3,I⟩:=mem_ready.1 hi;by_cases a2:i=j
 .subst a2;rw[a3] at ho;cases ho;exact getD_set_true (I e he hb)
 .rw[getD_set_ne false a2] at hj;exact getD_set_true (h j o ho hj e he hb)
def Mg.a8(n:Nat):Mg md ops (Array.replicate n false):=by
 intro j o _ hj;simp[Array.getElem?_replicate] at hj;split at hj<;>simp at hj
abbrev N6:=List (Nat×(World->Prop))
def kp(dep:Nat->Nat->Bool)(j:Nat)(S:N6):N6:=S.filter λp=>!dep j p.1
def KZ(P:Program)(md:Region.Mode)(r:Array Oper)(F8:Exit->Act->World->Prop)(dep:Nat->Nat->Bool):Nat->Array Bool->N6->Act->World->Prop
 | 0,listed,_,a,w=>Region.ready md r listed=[]/\F8 .normal a w
 | fuel+1,listed,S,a,w =>
  (Region.ready md r listed=[]->F8 .normal a w) /\
  ∀j∈Region.ready md r listed,wpOp P r F8 j (λa' ab=>(∀p∈kp dep j S,p.2 ab)/\KZ P md r F8 dep fuel (listed.setIfInBounds j true) (kp dep j S) a' ab) a w
variable {dep:Nat->Nat->Bool}
def KZ.a8:∀(fuel:Nat) (r:Array Bool) (S:N6) (a:Act) (w:World),KZ P md ops F8 dep fuel r S a w->wpAny P md ops F8 fuel r a w
 | 0,_,_,_,_,h=>h
 | fuel+1,_,_,_,_,h=>⟨h.1,λj hj=>wpOp_mono (λa' ab h'=>KZ.a8 fuel _ _ a' ab h'.2) (h.2 j hj)⟩
def KZ.less:∀(fuel:Nat) (r:Array Bool) (S S' : N6) (a:Act) (w:World),(∀p∈S',p∈S)->KZ P md ops F8 dep fuel r S a w->KZ P md ops F8 dep fuel r S' a w
 | 0,_,_,_,_,_,_,h=>h
 | fuel+1,_,S,S',_,_,hs,h=>⟨h.1,λj hj=>wpOp_mono (λa' ab h' =>
   have hk:∀p∈kp dep j S',p∈kp dep j S:=λp hp=>by
    unfold kp at *;rw[List.mem_filter] at *;exact⟨hs p hp.1,hp.2⟩
   ⟨λp hp=>h'.1 p (hk p hp),KZ.less fuel _ _ _ a' ab hk h'.2⟩) (h.2 j hj)⟩
def KZ.first{i:Nat}{oi:Oper}{v:Value}{Si:World->Prop}(hi:ops[i]? = some oi)(a7:∀(j:Nat) (o:Oper) cs b,ops[j]? = some o->o.op≠.select cs b)
  (hQ:∀c a w,F8 (.panic c) (a.put oi.dst v) w->F8 (.panic c) a w) (b0:∀j,dep j i=true->Pe md ops j i) :
  ∀(fuel:Nat) (r:Array Bool) (S:N6) (a:Act) (w:World),
   Mg md ops r ->
   (∀j oj,ops[j]? = some oj->j≠i->r.getD j true=false->(∀e∈oj.after,Region.binds md e=true->e.on≠i)->oi.apart ops oj=true) ->
   i∈Region.ready md ops r->YieldsIf P ops Si oi v a->Si w->(∀p∈S,p.2 w) ->
   KZ P md ops F8 dep fuel (r.setIfInBounds i true) ((i,Si)::S) (a.put oi.dst v) w->KZ P md ops F8 dep (fuel+1) r S a w:=by
 intro fuel;induction fuel with
 | zero =>
  intro r S a w _ _ hr Z hS hP H;refine⟨λh=>(by rw[h] at hr;cases hr),λj hj=>?_⟩;by_cases a2:j=i
  .subst a2;exact Z.wpOp hi hS ⟨λp hp=>hP p ((List.mem_filter.1 hp).1),H⟩
  .have:=ready_mono hj a2
   rw[H.1] at this;cases this
 | succ fuel ih =>
  intro r S a w b2 I hr Z hS hP H;refine⟨λh=>(by rw[h] at hr;cases hr),λj hj=>?_⟩;by_cases a2:j=i
  .subst a2;exact Z.wpOp hi hS ⟨λp hp=>hP p ((List.mem_filter.1 hp).1),KZ.less _ _ _ _ _ _ (λp hp=>List.mem_cons_of_mem _ ((List.mem_filter.1 hp).1)) H⟩
  .have J:=H.2 j (ready_mono hj a2);obtain⟨a6,oj,a9,a4⟩:=mem_ready.1 hj
   have a5:r.getD i false=true->False:=λJ=>by
    have h0:=(mem_ready.1 hr).1;rcases Nat.lt_or_ge i r.size with h' | h'
    .simp[h'] at h0 J;rw[h0] at J;cases J
    .simp[Array.getElem?_eq_none h'] at J
   have b1:∀e∈oj.after,Region.binds md e=true->e.on≠i:=λe he hb b5=>a5 (b5▸a4 e he hb)
   have b8:dep j i=false:=by
    cases hd:dep j i with
    | false=>rfl
    | true=>exact(a5 (b2.dep (b0 j hd) λo ho e he hb=>by rw[a9] at ho;cases ho;exact a4 e he hb)).elim
   have U:=wpOp_putIf a9 (I j oj a9 a2 a6 b1) (λcs b=>a7 i oi cs b hi) (λcs b=>a7 j oj cs b a9) hQ Z J
   have a3 : ∀k ok,ops[k]? = some ok->k≠i->(r.setIfInBounds j true).getD k true=false ->
     (∀e∈ok.after,Region.binds md e=true->e.on≠i)->oi.apart ops ok=true:=λk ok hk b6 b4 b9=>by
    refine I k ok hk b6 ?_ b9;by_cases b3:j=k
    .subst b3;exact a6
    .rw[getD_set_ne true b3] at b4;exact b4
   have b7:kp dep j ((i,Si)::S)=(i,Si)::kp dep j S:=by simp[kp,b8]
   rw[b7] at U;refine wpOp_mono (λa' ab h3=>⟨λp hp=>h3.2.1 p (List.mem_cons_of_mem _ hp),ih (r.setIfInBounds j true) _ a' ab (b2.set hj) a3 (ready_mono hr (Ne.symm a2)) h3.1 (h3.2.1 _ List.mem_cons_self) (λp hp=>h3.2.1 p (List.mem_cons_of_mem _ hp)) ?_⟩) U;rw[Array.setIfInBounds_comm _ _ a2];exact h3.2.2
end any
def dt(n:Nat):List Nat->Array Bool
 | []=>Array.replicate n false
 | i::Θ=>(dt n Θ).setIfInBounds i true
def PO(r:Array Oper):Nat->Nat->Nat->Bool
 | 0,_,_=>false
 | fuel+1,j,i=>match r[j]? with
  | none=>false
  | some o=>o.after.toList.any λe=>Region.binds .any e && (e.on == i || PO r fuel e.on i)
def qI{r:Array Oper}:∀(fuel j i:Nat),PO r fuel j i=true->Pe .any r j i
 | 0,_,_,h=>by simp[PO] at h
 | fuel+1,j,i,h=>by
  unfold PO at h;cases ho:r[j]? with
  | none=>rw[ho] at h;simp at h
  | some o =>
   rw[ho] at h;simp only[List.any_eq_true] at h;obtain⟨e,he,h⟩:=h;have I : e∈o.after:=by simpa using he
   simp only[Bool.and_eq_true,Bool.or_eq_true,beq_iff_eq] at h;rcases h with⟨hb,h|h⟩
   .exact .one ho I hb h
   .exact .more ho I hb (qI fuel _ i h)
inductive Im where
 | ev (i:Nat)
 | ef (i:Nat)
abbrev Uu(l:List Im):List Im:=.ev 0::.ev 1::.ev 2::.ev 3::l
abbrev Uv(l:List Im):List Im:=.ev 0::.ev 1::.ev 2::.ev 3::.ev 4::.ev 5::l
abbrev Uw(l:List Im):List Im:=.ev 0::.ev 1::.ev 2::.ev 3::.ev 4::.ev 5::.ev 6::.ev 7::l
abbrev Ux(l:List Im):List Im:=.ev 0::.ev 1::.ev 2::.ev 3::.ev 4::.ev 5::.ev 6::.ev 7::.ev 8::.ev 9::l
abbrev Uy(l:List Im):List Im:=.ev 0::.ev 1::.ev 2::.ev 3::.ev 4::.ev 5::.ev 6::.ev 7::.ev 8::.ev 9::.ev 10::.ev 11::.ev 12::l
abbrev Uz(l:List Im):List Im:=.ev 0::.ev 1::.ev 2::.ev 3::.ev 4::.ev 5::.ev 6::.ev 7::.ev 8::.ev 9::.ev 10::.ev 11::.ev 12::.ev 13::.ev 14::.ev 15::.ev 16::l
def iE(r:Array Oper)(done:List Nat):List Im->Bool
 | []=>(Region.ready .any r (dt r.size done)).isEmpty
 | .ev i::Θ=>(Region.ready .any r (dt r.size done)).contains i && Region.free .any r (dt r.size done) i && iE r (i::done) Θ
 | .ef i::Θ=>(Region.ready .any r (dt r.size done) == [i]) && iE r (i::done) Θ
structure PE where
 idx:Nat
 op:Op
 ty:TypeId
 env:Env
 v:Value
def kU(P:Program)(r:List PE)(S:N6):Prop:=∀p∈S,(∀w,p.2 w)\/∃pe∈r,pe.idx=p.1/\∃ρ o,Lv pe.env ρ/\o.op=pe.op/\o.type=pe.ty/\∀w,(execOp ρ o).run P w=.ok (.value pe.v) w->p.2 w
def Mh(r:Array Oper)(j i:Nat):Bool:=PO r r.size j i
class Mw (Ν:E1):Prop where
 no:∀c env L,¬Ν (.panic c) env L
 out:∀env L,¬Ν .outgrown env L
instance {n:Env->LH->Prop}{Ν:E1}[h:Mw Ν]:Mw (E1.seq n Ν):=⟨λc env L=>h.no c env L,λenv L=>h.out env L⟩
instance {F:Nat}{Ν:E1}[h:Mw Ν]:Mw (E1.inBlock F Ν):=⟨λc env L=>h.no c env L,λenv L=>h.out env L⟩
instance {P:Program}{N:Nat}{rs:List ResultVar}{post:Value->LH->Prop}:Mw (Ends P N rs post):=⟨(by
 rintro c env L ⟨h,_⟩;rcases h with h|h
 .cases h
 .cases h),(by
 rintro env L ⟨h,_⟩;rcases h with h|h
 .cases h
 .cases h)⟩
def GP(P:Program)(N:Nat)(r:Array Oper)(done:List Nat)(kP:List Im)(I:List PE)(env:Env)(L:LH)(Ν:E1):Prop :=
 Mw Ν->iE r done kP=true->Region.noSelect r=true->Mg .any r (dt r.size done) ->
 ∀θ η a w S,At N env L θ η a w->kU P I S->(∀p∈S,p.2 w) ->
  KZ P .any r (QK θ η N Ν) (Mh r) kP.length (dt r.size done) S a w
def NL(r:Array Oper):Bool:=r.all λo=>match o.op with
 | .defer _=>false
 | _=>true
def vE{r:Array Oper}(h:NL r=true){i:Nat}{o:Oper}(hi:r[i]? = some o):∀c,o.op≠.defer c:=by
 intro c hc;have J:=Array.all_eq_true.1 h i (Array.getElem?_eq_some_iff.1 hi).1;rw[(Array.getElem?_eq_some_iff.1 hi).2] at J;simp[hc] at J
def Cr{P:Program}{Θ:Option Nat}{r:Array Oper}{F8:Exit->Act->World->Prop}(hd:NL r=true)(hq:¬LetsOut F8){i:Nat}{Ν K' : Act->World->Prop}{a:Act}{w:World}(hk:∀a w,Ν a w->K' a w)(h:wpOp P r F8 i Ν a w):wpOpIn (FW Θ) 0 P r F8 i K' a w:=by
 have h:=wpOp_mono hk h;unfold wpOp at h;unfold wpOpIn;cases hi:r[i]? with
 | none=>simp only[hi] at h ⊢;exact h
 | some o =>
  simp only[hi] at h ⊢;split
  .rename_i hw;simp only[hw,if_true] at h;rcases h with h|h
   .exact kZ (vE hd hi) h
   .exact iW h.2 hq
  .rename_i hw;simp only[hw] at h;exact⟨λ_ _=>trivial,h⟩
def nc{P:Program}{Θ:Option Nat}{md:Region.Mode}{I:Array Oper}{F8:Exit->Act->World->Prop}(hd:NL I=true)(hq:¬LetsOut F8):∀(fuel:Nat) (r:Array Bool) (a:Act) (w:World),wpAny P md I F8 fuel r a w->wpAnyIn (FW Θ) 0 P md I F8 fuel r a w
 | 0,_,_,_,h=>h
 | fuel+1,_,_,_,h=>⟨h.1,λi hi=>Cr hd hq (λa w=>nc hd hq fuel _ a w) (h.2 i hi)⟩
def Im.idx:Im->Nat
 | .ev i=>i
 | .ef i=>i
def Ο(P:Program)(N:Nat)(r:Array Oper)(done:List Nat)(s:Im)(kP:List Im)(a2:Option Tmp)(op:Op)(ty:TypeId)(I:List PE)(env:Env)(L:LH)(Ν:E1):Prop :=
 ∀pos af g,r[s.idx]? = some ⟨a2,op,ty,pos,af,g⟩->(∀a,JI N env a->Region.wanted ⟨a2,op,ty,pos,af,g⟩ (yielded r a.tmps)=true)->GP P N r done (s::kP) I env L Ν
def h2(P:Program)(N:Nat)(a2:Array Oper)(done:List Nat)(i:Nat)(kP:List Im)(I acc:List PE)(env:Env)(L:LH)(Ν:E1):Prop :=
 ∃r:List PE,(∀pe∈I,Mh a2 i pe.idx=true\/(pe∈r/\O P L pe.env pe.op pe.ty pe.v))/\(∀pe∈acc,pe∈r)/\GP P N a2 (i::done) kP r env L Ν
section gp
variable {P:Program}{N:Nat}{ops:Array Oper}{done:List Nat}{kP:List Im}{D3:List PE}{env:Env}{L:LH}{Ν:E1}
def Δ.j0{F:Nat}{l:List Oper}(kP:List Im)[hK:Mw Ν](hm:P.follows .mixedOrders=true)(hp:(iE l.toArray [] kP && (kP.length == l.toArray.size) && Region.noSelect l.toArray && NL l.toArray)=true)(h:GP P N l.toArray [] kP [] env L Ν):Δ P N (.region F l.toArray true) env L Ν:=by
 intro Θ θ η a w hr i;simp only[Bool.and_eq_true,beq_iff_eq] at hp;obtain⟨⟨⟨J,U⟩,h3⟩,h4⟩:=hp;refine wpIn_region_any hm (nc h4 (by rintro⟨a',ab,env,L,_,h⟩;exact hK.out env L h) _ _ _ _ (KZ.a8 (dep:=Mh l.toArray) _ _ [] _ _ ?_));obtain⟨ξ,ea,r,s⟩:=i;have:=h hK J h3 (Mg.a8 _) θ η a { w with drawn:=w.drawn+1 } [] ⟨ξ,ea,r,s.drew⟩ (by intro p hp;cases hp) (by simp)
 rw[U] at this;exact this
def GP.nil(h:Ν .normal env L):GP P N ops done [] D3 env L Ν:=by
 intro _ hp _ _ θ η a w S i _ _;simp only[iE,List.isEmpty_iff] at hp;exact⟨hp,env,L,i,h⟩
def xh{θ:Th}{Α:LH}(hK:Mw Ν)(c:List PanicEntry)(a:Act)(w:World):¬QK θ Α N Ν (.panic c) a w:=λ⟨env,L,_,h⟩=>hK.no c env L h
def GP.c7{i Ξ:Nat}{op:Op}{ty:TypeId}{pos:String}{af:Array Edge}{g:Option (Nat×Bool)}{v:Value}{r : List PE}(hi:ops[i]? = some ⟨some Ξ,op,ty,pos,af,g⟩)(hd:Ξ<N)
  (Z:∀θ Α a w,JI N env a->Sat θ (L++Α) w->∃Si,YieldsIf P ops Si ⟨some Ξ,op,ty,pos,af,g⟩ v a/\Si w/\∀S,kU P D3 S->kU P r ((i,Si)::S))
  (h:GP P N ops (i::done) kP r ((Ξ,v)::env) L Ν):GP P N ops done (.ev i::kP) D3 env L Ν:=by
 intro hK hp hs a2 θ η a w S i0 a6 a3;simp only[iE,Bool.and_eq_true,List.contains_iff_mem] at hp;obtain⟨⟨J,U⟩,h3⟩:=hp;obtain⟨ξ,ea,a5,s⟩:=i0;obtain⟨Si,a7,a4,a9⟩:=Z θ _ a w ea s
 have I:∀p∈(i,Si)::S,p.2 w:=λp hp=>by
  rcases Jr hp with rfl|hp
  .exact a4
  .exact a3 p hp
 refine KZ.first hi (Region.noSelect_spec hs) (λc a w q=>(xh hK c _ w q).elim) (λj hj=>qI _ j i hj) _ _ S a w a2 (Region.free_spec hi U) J a7 a4 a3 ?_;exact h hK h3 hs (a2.set J) θ η (a.put (some Ξ) v) w _ ⟨ξ,ea.put hd v,by rw[Oz];exact a5,s⟩ (a9 S a6) I
def Ο.H6{i Ξ:Nat}{op:Op}{ty:TypeId}{v:Value}(he:O P [] env op ty v)(hd:Ξ<N)(h:GP P N ops (i::done) kP D3 ((Ξ,v)::env) L Ν):Ο P N ops done (.ev i) kP (some Ξ) op ty D3 env L Ν:=by
 intro pos af g hi hw;refine GP.c7 hi hd (λθ Α a w ea s=>⟨λ_=>True,.inl ⟨hw a ea,?_⟩,trivial,λS hS p hp=>?_⟩) h
 .intro ab _;exact he ⟨ab.tape,ab.os,ab.output,0⟩ [] a.eval ab _ ea.KF ⟨⟨rfl,rfl,rfl,Nat.zero_le _⟩,Hp.emp,Hp.emp,Hp.c7 _,Hp.a8 _,Hp.a8 _,trivial⟩ rfl rfl
 .rcases Jr hp with rfl|hp
  .exact .inl λ_=>trivial
  .exact hS p hp
def Ο.Js{i Ξ:Nat}{op:Op}{ty:TypeId}{v:Value}(he:O P L env op ty v)(hd:Ξ<N)(h:GP P N ops (i::done) kP (⟨i,op,ty,env,v⟩::D3) ((Ξ,v)::env) L Ν):Ο P N ops done (.ev i) kP (some Ξ) op ty D3 env L Ν:=by
 intro pos af g hi hw;refine GP.c7 hi hd (λθ Α a w ea s=>⟨λab=>(execOp a.eval ⟨some Ξ,op,ty,pos,af,g⟩).run P ab = .ok (.value v) ab,.inl ⟨hw a ea,λab h=>h⟩,he θ Α a.eval w _ ea.KF s rfl rfl,λS hS p hp=>?_⟩) h;rcases Jr hp with rfl|hp
 .exact .inr ⟨_,List.mem_cons_self,rfl,a.eval,_,ea.KF,rfl,rfl,λw h=>h⟩
 .rcases hS p hp with h|⟨pe,J,U⟩
  .exact .inl h
  .exact .inr ⟨pe,List.mem_cons_of_mem _ J,U⟩
def GP.c8{i Ξ:Nat}{op:Op}{ty:TypeId}{pos:String}{af:Array Edge}{g:Option (Nat×Bool)}(hi:ops[i]? = some ⟨some Ξ,op,ty,pos,af,g⟩)(hd:Ξ<N)(hw:∀a,JI N env a->Region.wanted ⟨some Ξ,op,ty,pos,af,g⟩ (yielded ops a.tmps)=false)
  (h:GP P N ops (i::done) kP D3 ((Ξ,undef)::env) L Ν):GP P N ops done (.ev i::kP) D3 env L Ν:=by
 refine GP.c7 hi hd (λθ Α a w ea s=>⟨λ_=>True,.inr ⟨hw a ea,rfl⟩,trivial,λS hS p hp=>?_⟩) h;rcases Jr hp with rfl|hp
 .exact .inl λ_=>trivial
 .exact hS p hp
def h2.nil{i:Nat}{acc:List PE}(h:GP P N ops (i::done) kP acc env L Ν):h2 P N ops done i kP [] acc env L Ν:=⟨acc,(by intro pe h;cases h),λ_ h=>h,h⟩
def h2.drop{i:Nat}{pe:PE}{ts acc:List PE}(hd:Mh ops i pe.idx=true)(h:h2 P N ops done i kP ts acc env L Ν):h2 P N ops done i kP (pe::ts) acc env L Ν:=by
 obtain⟨r,J,U,h3⟩:=h;refine⟨r,λp hp=>?_,U,h3⟩;rcases Jr hp with rfl|hp
 .exact .inl hd
 .exact J p hp
def h2.keep{i k:Nat}{op:Op}{ty:TypeId}{r : Env}{v:Value}{ts acc:List PE}(hd:O P L r op ty v)(h:h2 P N ops done i kP ts (⟨k,op,ty,r,v⟩::acc) env L Ν):h2 P N ops done i kP (⟨k,op,ty,r,v⟩::ts) acc env L Ν:=by
 obtain⟨I,J,U,h3⟩:=h;refine⟨I,λp hp=>?_,λp hp=>U p (List.mem_cons_of_mem _ hp),h3⟩;rcases Jr hp with rfl|hp
 .exact .inr ⟨U _ List.mem_cons_self,hd⟩
 .exact J p hp
def h2.step{i:Nat}(h:h2 P N ops done i kP D3 [] env L Ν){θ:Th}{Α:LH}{a:Act}{w:World}{S:N6}(hK:Mw Ν)(h3:iE ops (i::done) kP=true)(hs:Region.noSelect ops=true)(a3:Mg .any ops (dt ops.size (i::done)))(i0:At N env L θ Α a w)(a7:kU P D3 S) :
  (∀p∈kp (Mh ops) i S,p.2 w)/\KZ P .any ops (QK θ Α N Ν) (Mh ops) kP.length (dt ops.size (i::done)) (kp (Mh ops) i S) a w:=by
 obtain⟨I,k1,_,k3⟩:=h;obtain⟨ξ,ea,a5,s⟩:=i0
 have r:∀p∈kp (Mh ops) i S,p.2 w/\((∀w,p.2 w)\/∃pe∈I,pe.idx=p.1/\∃ρ o,Lv pe.env ρ/\o.op=pe.op/\o.type=pe.ty/\∀w,(execOp ρ o).run P w=.ok (.value pe.v) w->p.2 w):=by
  intro p hp;obtain⟨a6,a2⟩:=List.mem_filter.1 hp;rcases a7 p a6 with h|⟨pe,J,U,ρ,o,h4,h5,h6,h7⟩
  .exact⟨h w,.inl h⟩
  .rcases k1 pe J with hd|⟨hk,a4⟩
   .rw[U] at hd;rw[hd] at a2;simp at a2
   .exact⟨h7 w (a4 θ _ ρ w o h4 s h5 h6),.inr ⟨pe,hk,U,ρ,o,h4,h5,h6,h7⟩⟩
 exact⟨λp hp=>(r p hp).1,k3 hK h3 hs a3 θ Α a w _ ⟨ξ,ea,a5,s⟩ (λp hp=>(r p hp).2) (λp hp=>(r p hp).1)⟩
def Ο.ef{i Ξ:Nat}{op:Op}{ty:TypeId}{post:Value->LH->Prop}(he:Ef P L env op ty post)(hd:Ξ<N)(h:∀v Y,post v Y->h2 P N ops done i kP D3 [] ((Ξ,v)::env) Y Ν):Ο P N ops done (.ef i) kP (some Ξ) op ty D3 env L Ν:=by
 intro pos af g hi hw hK hp hs I θ η a w S i0 a6 a7;obtain⟨ξ,ea,a5,s⟩:=i0;simp only[iE,Bool.and_eq_true,beq_iff_eq] at hp;obtain⟨J,h3⟩:=hp;have a3:i∈Region.ready .any ops (dt ops.size done):=by rw[J];exact List.mem_singleton.2 rfl
 refine⟨λh0=>(by rw[h0] at J;cases J),λj hj=>?_⟩;rw[J] at hj;have a4:j=i:=D6 hj;subst a4;have a2 : ops[j]? = some ⟨some Ξ,op,ty,pos,af,g⟩:=hi;unfold wpOp;simp only[a2,hw a ea,if_true];refine .inl (he θ _ a w _ _ _ ea.KF s rfl rfl λv Y ab r s'=>?_);exact(h v Y r).step hK h3 hs (I.set a3) ⟨ξ,ea.put hd v,by rw[Oz];exact a5,s'⟩ a6
def Ο.I1{i:Nat}{op:Op}{ty:TypeId}{post:Value->LH->Prop}(he:Ef P L env op ty post)(h:∀v Y,post v Y->h2 P N ops done i kP D3 [] env Y Ν):Ο P N ops done (.ef i) kP none op ty D3 env L Ν:=by
 intro pos af g hi hw hK hp hs I θ η a w S i0 a6 a7;obtain⟨ξ,ea,a5,s⟩:=i0;simp only[iE,Bool.and_eq_true,beq_iff_eq] at hp;obtain⟨J,h3⟩:=hp;have a3:i∈Region.ready .any ops (dt ops.size done):=by rw[J];exact List.mem_singleton.2 rfl
 refine⟨λh0=>(by rw[h0] at J;cases J),λj hj=>?_⟩;rw[J] at hj;have a4:j=i:=D6 hj;subst a4;have a2 : ops[j]? = some ⟨none,op,ty,pos,af,g⟩:=hi;unfold wpOp;simp only[a2,hw a ea,if_true];refine .inl (he θ _ a w _ _ _ ea.KF s rfl rfl λv Y ab r s'=>?_);exact(h v Y r).step hK h3 hs (I.set a3) ⟨ξ,ea,a5,s'⟩ a6
def GP.a8{i Ξ:Nat}{op:Op}{ty:TypeId}{pos:String}{af:Array Edge}{g:Option (Nat×Bool)}(hi:ops[i]? = some ⟨some Ξ,op,ty,pos,af,g⟩)(hd:Ξ<N)(hw:∀a,JI N env a->Region.wanted ⟨some Ξ,op,ty,pos,af,g⟩ (yielded ops a.tmps)=false)
  (h:GP P N ops (i::done) kP D3 ((Ξ,undef)::env) L Ν):GP P N ops done (.ef i::kP) D3 env L Ν:=by
 intro hK hp hs I θ η a w S i0 a4 r;simp only[iE,Bool.and_eq_true,beq_iff_eq] at hp;obtain⟨J,h3⟩:=hp;have ea:=i0.Oy;have a2:i∈Region.ready .any ops (dt ops.size done):=by rw[J];exact List.mem_singleton.2 rfl
 refine⟨λh0=>(by rw[h0] at J;cases J),λj hj=>?_⟩;rw[J] at hj;have a3:j=i:=D6 hj;subst a3;unfold wpOp;simp only[hi,hw a ea,Bool.false_eq_true,if_false];exact⟨λp hp=>r p (List.mem_filter.1 hp).1,h hK h3 hs (I.set a2) θ η _ w _ (i0.put hd undef) (λp hp=>a4 p (List.mem_filter.1 hp).1) (λp hp=>r p (List.mem_filter.1 hp).1)⟩
def GP.go{s:Im}{r:Option Tmp}{op:Op}{ty:TypeId}{pos:String}{af:Array Edge}(hi:ops[s.idx]? = some ⟨r,op,ty,pos,af,none⟩)(h:Ο P N ops done s kP r op ty D3 env L Ν):GP P N ops done (s::kP) D3 env L Ν :=
 h pos af none hi λ_ _=>rfl
def mZ{j t:Nat}{v:Value}(hj:(ops[j]?).bind (·.dst)=some t)(ht:env.lookup t=some v){a:Act}(ea:JI N env a):yielded ops a.tmps j=match v with | .bool b=>some b|_=>none:=by
 unfold yielded;rw[hj];simp only[Option.bind_some,ea.at_ t _ ht];cases v<;>rfl
def GP.Qi{t:Nat}{v:Value}(ht:env.lookup t=some v)(h:GP P N ops done kP D3 ((t,v)::env) L Ν):GP P N ops done kP D3 env L Ν :=
 λhK hp hs r θ Α a w S i I a2=>h hK hp hs r θ Α a w S (i.less (J9.cons ht (J9.refl _)) (A.refl _)) I a2
def GP.guard{s:Im}{Ξ:Nat}{op:Op}{ty:TypeId}{pos:String}{af:Array Edge}{j t:Nat}{b c:Bool}(hi:ops[s.idx]? = some ⟨some Ξ,op,ty,pos,af,some (j,b)⟩)(hj:(ops[j]?).bind (·.dst)=some t)(ht:env.lookup t=some (.bool c))(hd:Ξ<N)
  (Z:c=b->Ο P N ops done s kP (some Ξ) op ty D3 env L Ν) (hn:c≠b->GP P N ops (s.idx::done) kP D3 ((Ξ,undef)::env) L Ν):GP P N ops done (s::kP) D3 env L Ν:=by
 by_cases r:c=b
 .subst r;exact Z rfl pos af _ hi λa ea=>by simp[Region.wanted,mZ hj ht ea]
 .have hw:∀a,JI N env a->Region.wanted ⟨some Ξ,op,ty,pos,af,some (j,b)⟩ (yielded ops a.tmps)=false:=λa ea=>by
   simp[Region.wanted,mZ hj ht ea,r]
  cases s with
  | ev i=>exact GP.c8 hi hd hw (hn r)
  | ef i=>exact GP.a8 hi hd hw (hn r)
def GP.c9{s:Im}{Ξ:Nat}{op:Op}{ty:TypeId}{pos:String}{af:Array Edge}{j t:Nat}{b:Bool}(hi:ops[s.idx]? = some ⟨some Ξ,op,ty,pos,af,some (j,b)⟩)(hj:(ops[j]?).bind (·.dst)=some t)(ht:env.lookup t=some undef)(hd:Ξ<N)
  (hn:GP P N ops (s.idx::done) kP D3 ((Ξ,undef)::env) L Ν):GP P N ops done (s::kP) D3 env L Ν:=by
 have hw:∀a,JI N env a->Region.wanted ⟨some Ξ,op,ty,pos,af,some (j,b)⟩ (yielded ops a.tmps)=false:=λa ea=>by
  simp[Region.wanted,mZ hj ht ea,undef]
 cases s with
 | ev i=>exact GP.c8 hi hd hw hn
 | ef i=>exact GP.a8 hi hd hw hn
def GP.d7{s:Im}{Ξ:Nat}{op:Op}{ty:TypeId}{pos:String}{af:Array Edge}{j t:Nat}{c:Bool}(hi:ops[s.idx]? = some ⟨some Ξ,op,ty,pos,af,some (j,true)⟩)(hj:(ops[j]?).bind (·.dst)=some t)(ht:env.lookup t=some (.bool c))(hd:Ξ<N)
  (h:GB c (Ο P N ops done s kP (some Ξ) op ty D3 env L Ν) (GP P N ops done (s::kP) D3 ((t,.bool true)::env) L Ν) (GP P N ops (s.idx::done) kP D3 ((Ξ,undef)::env) L Ν) (GP P N ops done (s::kP) D3 ((t,.bool false)::env) L Ν)):GP P N ops done (s::kP) D3 env L Ν:=by
 cases c with
 | true =>
  rcases h.1 rfl with h|h
  .exact GP.guard hi hj ht hd (λ_=>h) (λh=>iW rfl h)
  .exact h.Qi ht
 | false =>
  rcases h.2 rfl with h|h
  .exact GP.guard hi hj ht hd (λh=>by cases h) (λ_=>h)
  .exact h.Qi ht
def GP.d8{s:Im}{Ξ:Nat}{op:Op}{ty:TypeId}{pos:String}{af:Array Edge}{j t:Nat}{c:Bool}(hi:ops[s.idx]? = some ⟨some Ξ,op,ty,pos,af,some (j,false)⟩)(hj:(ops[j]?).bind (·.dst)=some t)(ht:env.lookup t=some (.bool c))(hd:Ξ<N)
  (h:GB c (GP P N ops (s.idx::done) kP D3 ((Ξ,undef)::env) L Ν) (GP P N ops done (s::kP) D3 ((t,.bool true)::env) L Ν) (Ο P N ops done s kP (some Ξ) op ty D3 env L Ν) (GP P N ops done (s::kP) D3 ((t,.bool false)::env) L Ν)):GP P N ops done (s::kP) D3 env L Ν:=by
 cases c with
 | true =>
  rcases h.1 rfl with h|h
  .exact GP.guard hi hj ht hd (λh=>by cases h) (λ_=>h)
  .exact h.Qi ht
 | false =>
  rcases h.2 rfl with h|h
  .exact GP.guard hi hj ht hd (λ_=>h) (λh=>iW rfl h)
  .exact h.Qi ht
def GP.LO{r : Env}(he:J9 env r)(h:GP P N ops done kP D3 r L Ν):GP P N ops done kP D3 env L Ν :=
 λhK hp hs I θ Α a w S i a2 a3=>h hK hp hs I θ Α a w S (i.less he (A.refl _)) a2 a3
