/- Lemmas. -/
import Derived.Test.YtlgpgjdggilkgaaGreatDoorEtah
import Derived.ArgAppend
set_option linter.all false
namespace Go.V
section
section fv
variable {P:Program}{N:Nat}{env:Env}{L:Η}{Ξ:F4}{ty:TypeId}
def Ft(P:Program)(gf:FuncId)(cap:τ)(B:List (τ))(Lg Lx:Η):Prop :=
 ∀(l:Nat) (J7 Jx:Nat->HP),(∀k (hk:k<B.length),SS P l B[k] [J7 k] (λv Γ=>(v=.bool true/\Γ = [J7 (k+1)])\/(v=.bool false/\Γ = [Jx k]))) ->
  Τ P gf (.func (.yield l) #[] #[]::cap).toArray (J7 0::Lg) (λ_ Γ=>Γ = J7 B.length::Lx\/∃k,Γ = Jx k::Lx)
def Α.d8{g:Operand}{ps:Array Tmp}{assign body:Code}{gf:FuncId}{cap:τ}{a2:List (τ)}{Lg Lx:Η}(it:Ft P gf cap a2 Lg Lx)(hg:cq env g=some (.func (.func gf) #[] cap.toArray))
  (b4:Enters P gf) (b7:∀p∈ps,p<N) (a9:∀vs∈a2,vs.length=ps.size) (G2:Nat->Η) (U:F L (G2 0++Lg))
  (a4:∀k (hk:k<a2.length),Α P N assign (T9 env (ps.toList.zip a2[k])) (G2 k) (F4.seq (λa7 Γ=>Α P N body a7 Γ (uT Ξ env Lx (G2 (k+1)))) (λ_ _ _=>False)))
  (a5:Ξ .normal env (G2 a2.length++Lx)):Α P N (.rangeFunc g ps assign body) env L Ξ:=by
 intro r θ χ a w hr i;obtain⟨ε,ea,hm,s⟩:=i;have s0:Sat θ (G2 0++Lg++(E5 ε++χ)) w:=U θ _ w s;-- what is Wi same in both cases
 have a6:∀(fn:FuncId) (l H8:Nat) (B:List Nat) (w₁:World),(Instr.enterLoop fn a.tmps ps assign body r).run P w=.ok (l,Qo B) w₁ ->
   Sat θ (jC l (.loop { state:=.ready,pending:=none,fn,tmps:=a.tmps,params:=ps,assign,body,defers:=H8 })::(E5 B++(G2 0++Lg++(E5 ε++χ)))) w₁ ->
   ∃(l:Nat) (B:List Deferred) (w₁:World) (Μ:Deferred) (w₁' : World) (f:FuncId) (args:Array Value) (w₂:World),
   (Instr.enterLoop fn a.tmps ps assign body (FW r).round).run P w=.ok (l,B) w₁ /\
   (resolve a.eval (rangeCall g l) 0).run P w₁=.ok Μ w₁' /\
   (∀f',Target.leads P w₁' Μ.target Μ.args=some f'->(FW r).fn f') /\
   (invoke Μ.target Μ.args).run P w₁' = .ok (.enter f args) w₂ /\
   ((FW r).depth.isSome=true->1<=0) /\
   CallsIn (FW r) (0 - 1) P f args w₂ (rangePost (FW r) 0 P l (QK θ χ N Ξ) { a with defers:=B++a.defers }):=by
  intro fn l H8 B w₁ he s1;obtain⟨M,a3⟩:∃M:Loop,M={ state:=.ready,pending:=none,fn,tmps:=a.tmps,params:=ps,assign,body,defers:=H8 }:=⟨_,rfl⟩;rw[<-a3] at s1;have b2:M.state=.ready:=by rw[a3]
  have b1:M.pending=none:=by rw[a3]
  have Y:∀k (hk:k<a2.length),SS P l a2[k] [cx (jC l (.loop M)::G2 k)] (λv Γ=>(v=.bool true/\Γ = [cx (jC l (.loop M)::G2 (k+1))])\/(v=.bool false/\Γ = [hex λx:Code×Η=>cx (ee (ie Ξ env Lx x.1 x.2)::jC l (.loop { M with state:=.done,pending:=some x.1 })::x.2)])):=by
   intro k hk;refine py b2 b1 (by rw[a3];exact a9 _ (cX _)) (by rw[a3];exact b7) (env:=env) ?_ ?_
   .rw[a3];exact⟨ea.size,ea.at_⟩
   .rw[a3];exact a4 k hk
  have ht:=it l (λk=>cx (jC l (.loop M)::G2 k)) (λ_=>hex λx:Code×Η=>cx (ee (ie Ξ env Lx x.1 x.2)::jC l (.loop { M with state:=.done,pending:=some x.1 })::x.2)) Y;have b5:a.eval g=.func (.func gf) #[] cap.toArray:=aJ ea.Pk hg;refine⟨l,Qo B,w₁,{ target:=.fn (.func gf) cap.toArray,args:=#[.func (.yield l) #[] #[]] },w₁,gf,(.func (.yield l) #[] #[]::cap).toArray,w₁,he,?_,λ_ _=>trivial,?_,(λh=>by cases h),mP ?_⟩
  .simp only[resolve,Deferred.ofValue,b5];simp[Act.eval]
  .have:=b4 (.func (.yield l) #[] #[]::cap).toArray w₁
   simpa [invoke] using this
  have s2:Sat θ (cx (jC l (.loop M)::G2 0)::Lg++(E5 B++(E5 ε++χ))) w₁:=by
   refine Sat.a8 (Ο:=jC l (.loop M)::G2 0) (s1.perm ?_);simp only[au];refine List.Perm.cons _ ?_;rw[aH];refine Ua.trans ?_;refine List.Perm.append_left _ ?_;exact Ua
  refine(ht.calls θ _ w₁ s2).mono ?_;rintro e w₂ ⟨v,Γ,rfl,b3,s3⟩;rcases b3 with rfl|⟨k,rfl⟩
  .have s4:Sat θ (jC l (.loop M)::(G2 a2.length++(Lx++(E5 B++(E5 ε++χ))))) w₂:=Sat.QB (Ο:=jC l (.loop M)::G2 a2.length) s3;have hh:=s4.Nr;refine⟨none,_,(by rw[<-b1];exact jA hh (by rw[b2];simp)),?_⟩;have s5:=(Sat.c7 (Rf:={ M with state:=.exhausted }) s4).tail;refine⟨env,G2 a2.length++Lx,⟨B++ε,⟨ea.size,ea.at_⟩,by simp[Qo,hm],?_⟩,a5⟩;have e:E5 (B++ε)++χ=E5 B++(E5 ε++χ):=by simp[E5]
   rw[e,aH];exact s5
  .obtain⟨⟨c,L₂⟩,s4⟩:=Sat.TI (L:=Lx++(E5 B++(E5 ε++χ))) s3;have s5:Sat θ (ee (ie Ξ env Lx c L₂)::(jC l (.loop { M with state:=.done,pending:=some c })::(L₂++(Lx++(E5 B++(E5 ε++χ)))))) w₂:=Sat.QB (Ο:=ee (ie Ξ env Lx c L₂)::jC l (.loop { M with state:=.done,pending:=some c })::L₂) s4;have hj:=s5.TH;have s6:=s5.tail;have hh:=s6.Nr;have s7:=(Sat.c7 (Rf:={ ({ M with state:=.done,pending:=some c }:Loop) with state:=.exhausted }) s6).tail;refine⟨some c,_,jA hh cj,?_⟩
   have b0:At N env (L₂++Lx) θ χ { a with defers:=Qo B++a.defers } { w₂ with heap:=w₂.heap.setIfInBounds l (.loop { ({ M with state:=.done,pending:=some c }:Loop) with state:=.exhausted }) }:=by
    refine⟨B++ε,⟨ea.size,ea.at_⟩,by simp[Qo,hm],?_⟩;have e:E5 (B++ε)++χ=E5 B++(E5 ε++χ):=by simp[E5]
    rw[e,aH];exact s7
   cases c with
   | ret=>exact wpIn_ret ⟨env,_,b0,hj⟩
   | exit A=>exact wpIn_exit ⟨env,_,b0,hj⟩
   | _=>exact hj.elim
 refine wpIn_rangeFunc λfn _=>?_;cases r with
 | none =>
  have s1:=s0.alloc (o:=.deferred (some []));have s2:=s1.alloc (o:=.loop { state:=.ready,pending:=none,fn,tmps:=a.tmps,params:=ps,assign,body,defers:=w.heap.size });refine a6 fn (w.heap.size+1) w.heap.size [w.heap.size] _ jL ?_;rw[World.size_alloc] at s2;exact s2
 | some l =>
  obtain⟨M,Y',hY⟩:=hr l rfl
  have b6:w.heap[l]? = some (.loop M):=by
   have s1:Sat θ (jC l (.loop M)::(G2 0++Lg++(E5 ε++Y'))) w:=s0.perm (by
    have K:(G2 0++Lg++(E5 ε++χ)).Perm (G2 0++Lg++(E5 ε++(jC l (.loop M)::Y'))):=(hY.append_left _).append_left _;refine K.trans ?_;rw[<-aH,<-aH (G2 0++Lg)];exact dS)
   exact s1.Nr
  exact a6 fn w.heap.size M.defers [] _ (jK b6) s0.alloc
def F.Tl{Ο L:Η}:F (cx Ο::L) (Ο++L):=λθ R w s=>by
 have h:Sat θ (Ο++(L++R)) w:=Sat.QB (L:=L++R) s;rw[aH];exact h
def F.f7{Ο L:Η}:F (Ο++L) (cx Ο::L):=λθ R w s=>by
 rw[aH] at s;exact Sat.a8 s
def SC(Ο fG:HP):HP:=λι _=>Ο ι Hp.emp/\fG ι Hp.emp
def Om.and{Ο fG:HP}(hA:Om Ο)(hB:Om fG):Om (SC Ο fG) :=
 ⟨λ_ _ h=>h,λι ι' _ hs h=>⟨hA.mono ι ι' _ hs h.1,hB.mono ι ι' _ hs h.2⟩⟩
def F.UJ{Ο fG:HP}{L:Η}:F (SC Ο fG::L) (Ο::fG::L):=λθ R w s=>by
 obtain⟨ok,ι,h',a,b1,c,G6,E4,D4,d1,d2,d3,d4,d5,d6⟩:=s;exact⟨ok,ι,h',a,b1,c,G6,Hp.emp,D4,d1,Hp.c7 _,Hp.a8 _,d4,d5.1,G6,Hp.emp,D4,d1,Hp.c7 _,Hp.a8 _,Hp.sub.refl _,d5.2,d6⟩
def F.f9{Ο fG:HP}{L:Η}(hA:Om Ο)(hB:Om fG):F (Ο::fG::L) (SC Ο fG::L):=λθ R w s=>by
 obtain⟨ok,ι,h',a,b1,c,Sw,E4,D4,d1,d2,d3,d4,d5,VI,h₃,h₄,e1,e2,e3,e4,e5,e6⟩:=s;exact⟨ok,ι,h',a,b1,c,ι,Hp.emp,h₄,Hp.sub.refl _,Hp.c7 _,Hp.a8 _,e4.trans d4,⟨hA.mono _ _ _ d1 (hA.RQ _ _ d5),hB.mono _ _ _ e1 (hB.RQ _ _ e5)⟩,e6⟩
def fi{α:Type}{f:α->HP}{l:List α}(hf:∀x,Om (f x)):Om (Ψ f l) :=
 ⟨λ_ _ h=>h,λι ι' _ hs h x O=>(hf x).mono ι ι' _ hs (h x O)⟩
end fv
end
section
def PR{α:Type}(Ε:α->τ)(sz η:Nat)(ad:OA)(cap:Nat)(I:List α):HP:=λι h =>
 Ω Ε sz η ad cap I ι h\/((cap=I.length/\I.length<=maxLen)/\ξ Ε sz ad I ι h)
class UK (L:Η) (ad:OA) (α:outParam Type) (Ε:outParam (α->τ)) (sz η:outParam Nat) (cap:outParam Nat) (I:outParam (List α)) (R:outParam (Η)):Prop where
 perm:L.Perm (PR Ε sz η ad cap I::R)
instance {α:Type}(L:Η)(Ε:α->τ)(sz η:Nat)(ad:OA)(cap:Nat)(I:List α):UK (PR Ε sz η ad cap I::L) ad α Ε sz η cap I L:=⟨List.Perm.refl _⟩
instance {α:Type}(Ο:HP)(L:Η)(Ε:α->τ)(sz η:Nat)(ad:OA)(cap:Nat)(I:List α)(R:Η)[h:UK L ad α Ε sz η cap I R]:UK (Ο::L) ad α Ε sz η cap I (Ο::R):=⟨(h.perm.cons Ο).trans (List.Perm.swap _ _ _)⟩
section
variable {α:Type}{θ:Th}{Ε:α->τ}{sz η:Nat}{ad:OA}{cap:Nat}{I:List α}{L:Η}{w:World}
def Sat.Wp(s:Sat θ (PR Ε sz η ad cap I::L) w):Sat θ (Ω Ε sz η ad cap I::L) w\/((cap=I.length/\I.length<=maxLen)/\Sat θ (ξ Ε sz ad I::L) w):=by
 obtain⟨ok,ι,h,a,b1,c,G6,E4,D4,d1,d2,d3,d4,e,d6⟩:=s;rcases e with e|⟨e1,e2⟩
 .exact .inl ⟨ok,ι,h,a,b1,c,G6,E4,D4,d1,d2,d3,d4,e,d6⟩
 .exact .inr ⟨e1,ok,ι,h,a,b1,c,G6,E4,D4,d1,d2,d3,d4,e2,d6⟩
def F.VQ:F (Ω Ε sz η ad cap I::L) (PR Ε sz η ad cap I::L):=λθ R w s=>by
 obtain⟨ok,ι,h,a,b1,c,G6,E4,D4,d1,d2,d3,d4,e,d6⟩:=s;exact⟨ok,ι,h,a,b1,c,G6,E4,D4,d1,d2,d3,d4,.inl e,d6⟩
def F.n9(hm:I.length<=maxLen):F (ξ Ε sz ad I::L) (PR Ε sz η ad I.length I::L):=λθ R w s=>by
 obtain⟨ok,ι,h,a,b1,c,G6,E4,D4,d1,d2,d3,d4,e,d6⟩:=s;exact⟨ok,ι,h,a,b1,c,G6,E4,D4,d1,d2,d3,d4,.inr ⟨⟨rfl,hm⟩,e⟩,d6⟩
def Sat.f8(s:Sat θ (PR Ε sz η ad cap I::L) w):Sx w Ε sz ad I:=by
 rcases s.Wp with s|⟨_,s⟩
 .exact s.Wg
 .exact s.Wh
def Ls{R' : Η}[h:UK L ad α Ε sz η cap I R']:∀θ R w,Sat θ (L++R) w->I.length<=cap/\cap<=9223372036854775807:=λθ R w s=>by
 rcases (s.perm (h.perm.append_right R)).Wp with s|⟨⟨e1,e2⟩,s⟩
 .have:=s.QY
  simp only[maxLen] at this;exact⟨this.2.1,D⟩
 .simp only[maxLen] at e2;omega
end
instance {α:Type}(L:Η)(Ε:α->τ)(sz η:Nat)(ad:OA)(cap:Nat)(I:List α):F2 (PR Ε sz η ad cap I::L) ad α Ε sz I:=⟨λ_ _ _ s=>Sat.f8 s⟩
section ops
variable {P:Program}{N:Nat}{env:Env}{L:Η}{ty:TypeId}
def Ef.l9{t:TypeId}{x y:Operand}{α:Type}{Ε:α->τ}{b:Addr}{a7:OA}{n c n2 c2 sz η bb:Nat}{I ys:List α}{z:τ}[ht:M7 P t η sz bb z][hr:F2 L (some b) α Ε sz I][hq:F2 L a7 α Ε sz ys]
  (O:cq env x=some (.slice (some b) n c)) (Y:cq env y=some (.slice a7 n2 c2)) (hn:n=I.length) (hc:c=I.length) (b7:n2=ys.length) (h0:0<ys.length) (hb:(I.length+ys.length)*bb<=140737488355328) (hm:I.length+ys.length<=9223372036854775807)
  : Ef P L env (.call { callee:=.builtin .append,args:=#[x,y],argTypes:=#[t,t] }) ty (λv Γ=>∃a6 B,v=.slice a6 (I++ys).length B/\Γ = Ω Ε sz η a6 B (I++ys)::L) :=
 Ef.val (λθ R a w ea s b8 pos af g=>by
  subst hn hc b7;obtain⟨f1,f2⟩:=hr.rd θ R w s;obtain⟨g1,g2⟩:=hq.rd θ R w s;obtain⟨ii,z0,i1,i2,i3,i4,i5⟩:=ht.Β;rcases g2 with g2|⟨a2,rfl,g3⟩
  .subst g2;simp at h0
  have Ι:∀j u,(I.flatMap Ε)[j]? = some u->w.cell? (b.add j)=some u:=by
   rcases f2 with f2|⟨M,e1,f3⟩
   .subst f2;simp
   .cases e1;exact f3
  obtain⟨v',cO,a3,ho,hg⟩:=run_append_arg_grows (P:=P) (w:=w) t ty η ii z0 sz bb ht.under i1 i2 i4 i5 (by rw[<-ht.TJ,<-i3];simp) ht.pos b I.length I.length (I.flatMap Ε) (db f1) Ι a2 ys.length c2 (ys.flatMap Ε) (db g1) g3 D (by simp only[maxLen];omega) hb;obtain⟨b6,ho⟩:=ho;rcases ho with⟨_,hn⟩|⟨ew,B,b0,rfl,b4,b5,b9,b1,b2,a4⟩
  .omega
  have b3:=lZ _ a3;have ok:θ.ok cO:=⟨by rw[hg.tape];exact s.1.tape,by rw[hg.os];exact s.1.os,by rw[hg.output];exact s.1.output,aO s.1.drawn b3⟩
  have a5:∀x∈I++ys,(Ε x).length=sz:=λx O=>by
   rcases J8 O with O|O
   .exact f1 x O
   .exact g1 x O
  have a9:(I++ys).length=I.length+ys.length:=by simp
  have s2:Sat θ (jC ew (.cells b0 η (0,0))::(L++R)) cO:=s.fresh ok b4 b5 (λk x hk=>by rw[hg.block k (Array.getElem?_eq_some_iff.1 hk).1 cj];exact hk);have s3:=Sat.RO (cap:=B) s2 a5 D b1 b2 (by rw[a9,a4];simp);refine⟨_,cO,_,?_,⟨some ⟨ew,0,none⟩,B,by rw[a9],rfl⟩,s3⟩;simp[execOp,resolve,invoke,builtin,aJ ea O,aJ ea Y,a3])
def Ef.l0{t:TypeId}{x y:Operand}{α:Type}{Ε:α->τ}{ad a4:OA}{n c n2 c2 sz η bb cap:Nat}{I ys:List α}{z:τ}{R1:Η}[ht:M7 P t η sz bb z][hp:UK L ad α Ε sz η cap I R1][hq:F2 R1 a4 α Ε sz ys]
  (O:cq env x=some (.slice ad n c)) (Y:cq env y=some (.slice a4 n2 c2)) (hn:n=I.length) (hc:c=cap) (a5:n2=ys.length) (h0:0<ys.length) (K:∀e∈ys,∀u∈Ε e,u.oneCell' = true) (hb:(I.length+ys.length)*bb<=140737488355328) (hm:I.length+ys.length<=9223372036854775807)
  : Ef P L env (.call { callee:=.builtin .append,args:=#[x,y],argTypes:=#[t,t] }) ty (λv Γ=>∃M B,v=.slice M (I++ys).length B/\Γ = PR Ε sz η M B (I++ys)::R1):=by
 intro θ R a w o next F5 ha s e1 e2 a6
 have s1:=s.perm (hp.perm.append_right R)
 have jC:∀{ad:OA} {cap n c:Nat},cq env x=some (.slice ad n c)->n=I.length->c=cap->Sat θ (Ω Ε sz η ad cap I::R1++R) w->Oper.wp P o a w next F5:=λO hn hc s2 =>
  Ef.c9 (L:=Ω Ε sz η _ _ I::R1) (R1:=R1) (P:=P) (ty:=ty) (t:=t) O Y hn hc a5 K hb hm θ R a w o next F5 ha s2 e1 e2 (λv Γ cO ⟨M,B,q1,q2⟩ s'=>a6 v _ cO ⟨M,B,q1,rfl⟩ (by subst q2;exact F.VQ θ R cO s'))
 rcases Sat.Wp (L:=R1++R) s1 with s2|⟨⟨a2,a9⟩,s2⟩
 .exact jC O hn hc s2
 .cases ad with
  | none =>
   have h3:=s2.Wh.2
   have a3:I=[]:=by
    rcases h3 with h3|⟨a',a7,_⟩
    .exact h3
    .cases a7
   have hz:cap=0:=by rw[a2,a3];rfl
   subst hz;refine jC O hn hc ?_;rw[a3];exact Sat.d7 Ε sz η s2.tail
  | some b =>
   exact Ef.l9 (L:=ξ Ε sz (some b) I::R1) (η:=η) (P:=P) (ty:=ty) (t:=t) (I:=I) O Y hn (hc.trans a2) a5 h0 hb hm θ R a w o next F5 ha s2 e1 e2 (λv Γ cO ⟨M,B,q1,q2⟩ s'=>a6 v _ cO ⟨M,B,q1,rfl⟩ (by
    subst q2;exact F.VQ θ R cO (s'.perm (List.Perm.swap _ _ _)).tail))
def Ef.k9{t:TypeId}{x y:Operand}{α:Type}{Ε:α->τ}{ad:OA}{n c sz η bb cap b ac:Nat}{I:List α}{z cs:τ}{R1 R2:Η}(e:α)[ht:M7 P t η sz bb z][hp:UK L ad α Ε sz η cap I R1][hq:PO R1 b ac cs R2]
  (O:cq env x=some (.slice ad n c)) (Y:cq env y=some (.slice (some ⟨b,0,none⟩) 1 1)) (he:cs=Ε e) (hn:n=I.length) (hc:c=cap) (hs:cs.length=sz) (K:∀u∈cs,u.oneCell' = true) (hb:(I.length+1)*bb<=140737488355328) (hm:I.length+1<=9223372036854775807)
  : Ef P L env (.call { callee:=.builtin .append,args:=#[x,y],argTypes:=#[t,t] }) ty (λv Γ=>∃M B,v=.slice M (I++[e]).length B/\Γ = PR Ε sz η M B (I++[e])::R2):=by
 subst he
 have hrd:F2 R1 (some ⟨b,0,none⟩) α Ε sz [e]:=⟨λθ R w s=>by
  have hb:=Sat.T5 (R:=R) s hq.perm;refine⟨λy Y=>by rw[F6 Y];exact hs,.inr ⟨_,rfl,λi v hv=>?_⟩⟩;rw[fT,eh hb];simpa using hv⟩
 intro θ R a w o next F5 ha s e1 e2 a2
 refine Ef.l0 (P:=P) (ty:=ty) (t:=t) (hp:=hp) (hq:=hrd) O Y hn hc rfl (Nat.zero_lt_one) (λy Y u hu=>by rw[F6 Y] at hu;exact K u hu) (by simpa using hb) (by simpa using hm) θ R a w o next F5 ha s e1 e2 (λv Γ cO ⟨M,B,q1,q2⟩ s'=>a2 v _ cO ⟨M,B,q1,rfl⟩ ?_)
 subst q2;have s3:Sat θ (PR Ε sz η M B (I++[e])::(obj b ac (Ε e)::R2++R)) cO:=s'.perm ((hq.perm.append_right R).cons _);exact(s3.perm (List.Perm.swap _ _ _)).tail
end ops
end
end Go.V
namespace Go.Proofs.YtlgpgjdggilkgaaGreatDoor
section
open Go.V
attribute [local irreducible] Α GO GP δ ms Ev Ef C0 F CB GB Enters
theorem D7{α:Type}[Inhabited α]{l:List α}{i:Nat}(h:i<l.length):l[i]! = l[i]:=by
 grind
def vi(n:Int):Prop:=-9223372036854775808<=n/\n<=9223372036854775807
theorem bA{α:Type}[Inhabited α]{l:List α}{i:Nat}(h:i<l.length):l[i]!∈l:=aj
theorem Xt(ad:OA)(cap sz:Nat):N2 ad cap sz 0=ad:=by
 unfold N2;split
 .rfl
 .cases ad with
  | none=>rfl
  | some a=>simp[qm]
theorem ke{α:Type}[Inhabited α]{l:List α}{k:Nat}(h:k<l.length):l.drop k=l[k]!::l.drop (k+1):=by
 grind [bY]
theorem sU{α β:Type}[Inhabited α][Inhabited β](f:α->β){l:List α}{k:Nat}(h:k<l.length):(l.map f)[k]! = f l[k]!:=by
 grind
abbrev h2:=Int×Int×Int
abbrev ο:=List h2
def aL(l:h2):τ:=[J l.1,J l.2.1,J l.2.2]
def fX(t:h2):∀u∈aL t,u.oneCell' = true:=by simp[aL,Value.oneCell']
instance:RN aL:=⟨fX⟩
structure h1 where
 ad:OA
 cap:Nat
 C8:ο
 deriving Inhabited
def h1.v(s:h1):Value:=ah s.ad s.C8.length s.cap
abbrev G8(s:h1):HP:=ξ aL 3 s.ad s.C8
def tY(s:h1):Om (G8 s):=cQ _ _ _ _
def Q2(n:Int):Value:=J n
abbrev I7:Nat:=47
def jx{L:Η}(ad:OA)(n c:Nat)(I:ο)[F2 L ad h2 aL 3 I](hn:n=I.length)(hb:n<=1000000) :
  Τ Θ 102 #[ah ad n c] L (λv Γ=>∃M B,v=ah M I.length B/\Γ = Ω aL 3 I7 M B I::L):=by
 refine Τ.bd ?_;repeat' first|refine ab ?_|intro _|with_reducible refine CB.dec (λ_=>?_) (λ_=>?_)|with_reducible refine GB.dec (λ_=>?_) (λ_=>?_)|with_reducible refine CB.bool (λ_=>?_) (λ_=>?_)|with_reducible refine GB.bool (λ_=>?_) (λ_=>?_)
 .have h:ad=none:=by assumption
  subst h;refine KX.f8 (.inl rfl) (oO (L:=L) (I:=I)) ?_;intro O;subst O;refine KX.a8 aF (F.c8 aL 3 I7) ⟨_,_,rfl,rfl⟩
 .refine GO.cL (F.d9 (Ε:=aL) (sz:=3) (I:=[]) rfl rfl cj cj) ?_;refine GO.ef (Ef.c9 rfl rfl rfl rfl hn (λe _=>fX e) hZ hZ) ae ?_;rintro _ _⟨M,B,rfl,rfl⟩;refine Nd ?_;intros;refine KX.a8 aF (F.refl _) ⟨M,B,rfl,rfl⟩
def a0(l:h2):Prop:=0<=l.1/\0<=l.2.1/\l.2.1<=1099511627776/\1<=l.2.2/\l.2.2<=1099511627776 - l.2.1
def iN{φ ψ:Prop}(k:ψ)(h:Hid ψ->φ:=by intro k;first|refine GO.ci (f:=116) (Hid.out k)|refine δ.ci (f:=116) (Hid.out k)|refine GO.cf (f:=116) rfl (Hid.out k)|refine δ.cf (f:=116) rfl (Hid.out k)|refine KX.Sz (Hid.out k)):φ:=h ⟨k⟩
def YS{φ ψ:Prop}(k:ψ)(h:Hid ψ->φ:=by intro k;(repeat (first|refine ab ?_|intro B6|refine iN ?_));(repeat revert B6);exact Hid.out k):φ:=h ⟨k⟩
def kq{L:Η}(ad:OA)(n c:Nat)(I:ο)[F2 L ad h2 aL 3 I](hn:n=I.length)(hb:I.length<=4096)(O:∀l∈I,a0 l) :
  Τ Θ 54 #[ah ad n c] L (F3 (.bool true) L):=by
 refine Τ.bd ?_;refine YS ?_;intros;refine Α.loop (α:=Nat) (λi=>i<=n) (λi=>[(0,ah ad n c),(8,ah ad n c),(9,J n),(10,J (i:Int))]) (λ_=>L) (λi=>n - i) 0 D aD (F.refl _) ?_;intro i hi;by_cases M:i<n
 case neg =>
  refine YS ?_;intros;exact KX.en ⟨rfl,rfl⟩
 obtain⟨o1,o2,o3,o4,o5⟩:=O _ (bA (D:i<I.length));have B:(i:Int).toNat=i:=D;rw[<-B] at o1 o2 o3 o4 o5;refine YS ?_;intros;rw[bN o5];refine YS ?_;intros;refine⟨i+1,D,D,?_,?_⟩
 .rw[bC i];exact aD
 .exact ak
def ζ{κ α:Type}[DecidableEq κ](m:List (κ×α))(k:κ):Option α:=m.lookup k
theorem tn{κ α:Type}[DecidableEq κ]{m:List (κ×α)}{k:κ}{a:α}:∀p∈cZ m k a,p∈(k,a)::m:=by
 grind [cZ]
def aY(I:ο):Int:=I.foldl (λs l=>s+l.2.2) 0
theorem gA(I:ο){i:Nat}(h:i<I.length):aY (I.take (i+1))=aY (I.take i)+I[i]!.2.2:=by
 grind [aY,aB]
theorem lD{I:ο}(h:∀l∈I,a0 l):∀i,i<=I.length->0<=aY (I.take i)/\aY (I.take i)<=(i:Int)*1099511627776:=by
 intro i;induction i with
 | zero=>intro _;simp[aY]
 | succ i ih =>
  intro hi;obtain⟨K,T⟩:=ih D;obtain⟨o1,o2,o3,o4,o5⟩:=h _ (bA (D:i<I.length));grind [gA]
def lI{L:Η}(ad:OA)(n c:Nat)(I:ο)[F2 L ad h2 aL 3 I](hn:n=I.length)(hb:I.length<=4096)(O:∀l∈I,a0 l) :
  Τ Θ 55 #[ah ad n c] L (F3 (J (aY I)) L):=by
 refine Τ.bd ?_;refine Nd ?_;intros;refine Α.loop (α:=Nat) (λi=>i<=n) (λi=>[(0,ah ad n c),(3,J (aY (I.take i))),(6,ah ad n c),(7,J n),(8,J (i:Int))]) (λ_=>L) (λi=>n - i) 0 D aD (F.refl _) ?_;intro i hi;by_cases M:i<n
 case neg =>
  rw[aM D];refine Nd ?_;intros;exact KX.en ⟨rfl,rfl⟩
 have B:=lD O i D;obtain⟨o1,o2,o3,o4,o5⟩:=O _ (bA (D:i<I.length));have hs:=gA I (D:i<I.length);have hm:(i:Int)*1099511627776<=4096*1099511627776:=D;refine Nd ?_;intros;rw[bD];refine Nd ?_;intros;refine⟨i+1,D,D,?_,F.drop⟩;rw[hs,bC i];exact aD
def Ev.Ue{P:Program}{L:Η}{env:Env}{ty:TypeId}{κ α:Type}{t Ξ η:TypeId}{z:Value}{x:Operand}{b:Nat}{kv:κ->Value}{Ε:α->Value}{m:List (κ×α)}{R:Η}[ht:P0 P t Ξ η z][hp:QD L b κ α kv Ε m R](O:cq env x=some (.map (some b))) :
  Ev P L env (.call { callee:=.builtin .len,args:=#[x],argTypes:=#[t] }) ty (J (m.length:Int)) :=
 Ev.mk (λθ R _ w ea s _ _ _ _=>by
  obtain⟨es,B,e1,e2,e3,e4,e5,s2⟩:=(s.perm (hp.perm.append_right R)).Tk;have hb:=s2.Nr;have M:(getObj b).run P w=.ok (.map es B) w:=by simp[getObj,Sem.run,hb]
  have a2:es.size=m.length:=by
   have:=congrArg List.length e1
   simpa using this
  simp[execOp,resolve,invoke,aJ ea O,builtin,Builtin.len_,run_underlying ht.under,M,goInt,a2])
def Ev.A1{P:Program}{L:Η}{env:Env}{ty:TypeId}{t f off:Nat}{x:Operand}{cs:τ}{v:Value}{fs:Array Field}{fd:Field}(K:P.underlying t=some (.struct fs))(T:fs[f]? = some fd)(h3:fd.offset=off)(h4:∀w,(isAgg fd.type).run P w=.ok false w)
  (O:cq env x=some (bF cs)) (hv:cs[off]? = some v):Ev P L env (.field t x f) ty v :=
 Ev.mk (λθ R _ w ea s _ _ _ _=>by
  simp[execOp,aJ ea O,Instr.field,run_underlying K,T,h3,asAgg,part,h4,hv])
def dZ(a:Int×Int):τ:=[J a.1,J a.2]
def mg(t:Int×Int):∀u∈dZ t,u.oneCell' = true:=by simp[dZ,Value.oneCell']
instance:RN dZ:=⟨mg⟩
abbrev Qc:Nat:=67
end
section
open Go.V
abbrev iA(l:List Int):Prop:=∀x∈l,0<=x/\x<=255
def MQ:∀m,m<256->m ||| 128=m % 128+128:=by decide +kernel
def Mx:∀m,m<256->m &&& 127=m % 128:=by decide +kernel
def uv(n:Nat):List Int:=if h:n<128 then[(n:Int)] else((n % 128+128:Nat):Int)::uv (n / 128)
termination_by n
decreasing_by omega
theorem nh{n:Nat}(h:n<128):uv n=[(n:Int)]:=by rw[uv,dif_pos h]
theorem qr{n:Nat}(h:¬n<128):uv n=((n % 128+128:Nat):Int)::uv (n / 128):=by rw[uv,dif_neg h]
theorem ly(n:Nat):iA (uv n):=by
 induction n using Nat.strongRecOn with
 | _ n ih =>
  grind [nh,qr]
theorem LJ(k:Nat):∀n,n<128 ^ (k+1)->(uv n).length<=k+1:=by
 induction k with
 | zero=>grind [nh]
 | succ k ih =>
  grind [qr]
theorem gT{n:Nat}(h:n<18446744073709551616):(uv n).length<=10:=LJ 9 n (by
 omega)
def QE:List Int->Nat->Nat->Nat×Int×List Int
 | [],_,_=>(0,3,[])
 | b::t,i,acc=>if(i=9/\1<b)\/(0<i/\b=0) then(0,2,t) else if b<128 then(acc+b.toNat % 128*128 ^ i,0,t) else QE t (i+1) (acc+b.toNat % 128*128 ^ i)
def zz(n:Int):Nat:=if n<0 then 2*(-(n+1)).toNat+1 else 2*n.toNat
def UL(u:Nat):Int:=if u % 2=1 then -((u / 2:Nat):Int) - 1 else((u / 2:Nat):Int)
def kR{n:Int}(h0 : -9223372036854775808<=n)(K:n<=9223372036854775807):zz n<18446744073709551616:=by unfold zz;split<;>omega
theorem Kj(n:Int):UL (zz n)=n:=by
 grind [UL,zz]
def nS{i:Nat}(h:i<=9):(128:Nat) ^ i<=9223372036854775808:=by
 have K:(128:Nat) ^ i<=128 ^ 9:=Nat.pow_le_pow_right ae h;omega
def IE{a c i:Nat}(ha:a<128 ^ i)(hc:c*128 ^ i<18446744073709551616):a ||| (c*2 ^ (7*i) % 18446744073709551616)=a+c*128 ^ i:=by
 have e:(2:Nat) ^ (7*i)=128 ^ i:=by rw[Nat.pow_mul]
 rw[e,Nat.mod_eq_of_lt hc,Nat.or_comm,nat_join (7*i) (c*128 ^ i) a (by rw[e];exact Nat.mul_mod_left _ _) D,Nat.add_comm]
theorem FS:∀(l:List Int) (i acc:Nat),iA l->i<=9->acc<128 ^ i->(QE l i acc).1<18446744073709551616
 | [],_,_,_,_,_=>by simp[QE]
 | b::t,i,acc,hb,hi,ha=>by
  have K:=hb b cj;have hp:=nS hi;simp only[QE];split
  .simp
  .rename_i B;have hm:=dX b.toNat (show 0<128 by decide);have M:b.toNat % 128*128 ^ i<=127*128 ^ i:=bR _ D;by_cases h9:i=9
   .grind
   .have a2:(128:Nat) ^ (i+1)<=9223372036854775808:=nS D;have a3:(128:Nat) ^ (i+1)=128 ^ i*128:=D;split
    .omega
    .exact FS t (i+1) _ aj D D
theorem LR(n:Nat):∀(cN:List Int) (i acc:Nat),i<=9->(0<i->n≠0)->n*128 ^ i<18446744073709551616->QE (uv n++cN) i acc=(acc+n*128 ^ i,0,cN):=by
 induction n using Nat.strongRecOn with
 | _ n ih =>
  intro cN i acc hi h0 a3;have M:0<(128:Nat) ^ i:=aj;by_cases h:n<128
  .grind [nh,QE]
  .rw[qr h]
   have a2:i≠9:=by
    intro h9;subst h9;have T:128*128 ^ 9<=n*128 ^ 9:=D;have h3:(128:Nat) ^ 9=9223372036854775808:=by decide
    omega
   have B:¬((i=9/\(1:Int)<((n % 128+128:Nat):Int))\/(0<i/\((n % 128+128:Nat):Int)=0)):=by
    rintro (⟨h9,K⟩|⟨h9,K⟩)
    .omega
    .omega
   simp only[au,QE];rw[Ν B,Ν D,bD,show(n % 128+128) % 128=n % 128 by omega];have hp:(128:Nat) ^ (i+1)=128 ^ i*128:=D
   have hq:n / 128*128 ^ (i+1)+n % 128*128 ^ i=n*128 ^ i:=by
    rw[hp,Nat.mul_comm (128 ^ i) 128,<-Nat.mul_assoc,<-dY];congr 1;omega
   grind
theorem KB{n:Nat}(h:n<18446744073709551616)(cN:List Int):QE (uv n++cN) 0 0=(n,0,cN):=by
 grind [LR]
end
end Go.Proofs.YtlgpgjdggilkgaaGreatDoor
namespace Go.V
section gf
variable {P:Program}{N:Nat}{ops:Array Oper}{done done' : List Nat}{n:Nat}{E8:List PE}{env env' : Env}{L Γ : Η}{Ξ:F4}
def GF.Rs(hd:(dV ops.size done == dV ops.size done')=true)(he:OL env env')(hL:F L Γ)(h:GF P N ops done' n E8 env' Γ Ξ):GF P N ops done n E8 env L Ξ:=by
 have e:=eq_of_beq hd;intro hK hs B θ χ a w S i M a2;rw[e] at B ⊢;exact h hK hs B θ χ a w S (i.less he hL) M a2
def GF.cL(hL:F L Γ)(h:GF P N ops done n E8 env Γ Ξ):GF P N ops done n E8 env L Ξ:=λhK hs B θ χ a w S i M a2=>h hK hs B θ χ a w S (i.less (OL.refl _) hL) M a2
end gf
end Go.V
namespace Go.Proofs.YtlgpgjdggilkgaaGreatDoor
open Go.V
abbrev RT(b:Nat)(I:List Int)(x:SQ)(L:Η):Η:=obj b 368 [ah x.ad I.length x.cap]::Ω (dJ .u8) 1 5 x.ad x.cap I::L
def QF(b:Nat)(I:List Int):HP:=hex λx:SQ=>cx (RT b I x [])
def oF{b:Nat}{I:List Int}{L:Η}(x:SQ):F (RT b I x L) (QF b I::L):=F.f8 (f:=λx=>RT b I x []) x (F.refl _)
attribute [local irreducible] Α GO GP δ ms GF GE Ev Ef C0 F CB GB V.Enters
def sD{L:Η}(ad:OA)(n c:Nat)(I:List Int)[F2 L ad Int (dJ .u8) 1 I](hn:n=I.length)(hb:n<=1000000000) :
  Τ Θ 279 #[ah ad n c] L (λv Γ=>∃M B,v=ah M I.length B/\Γ = Ω (dJ .u8) 1 5 M B I::L):=by
 refine Τ.bd ?_;repeat' first|refine ab ?_|intro _|with_reducible refine CB.dec (λ_=>?_) (λ_=>?_)|with_reducible refine GB.dec (λ_=>?_) (λ_=>?_)|with_reducible refine CB.bool (λ_=>?_) (λ_=>?_)|with_reducible refine GB.bool (λ_=>?_) (λ_=>?_)
 .have h:ad=none:=by assumption
  subst h;refine KX.f8 (.inl rfl) (oO (L:=L) (I:=I)) ?_;intro O;subst O;refine KX.a8 aF (F.c8 (dJ .u8) 1 5) ⟨_,_,rfl,rfl⟩
 .refine GO.cL (F.d9 (Ε:=dJ .u8) (sz:=1) (I:=[]) rfl rfl cj cj) ?_;refine GO.ef (Ef.c9 rfl rfl rfl rfl hn (λe _=>io _ e) hZ hZ) ae ?_;rintro _ _⟨M,B,rfl,rfl⟩;refine Nd ?_;intros;refine KX.a8 aF (F.refl _) ⟨M,B,rfl,rfl⟩
theorem tQ{L:Η}(b:Nat)(I:List Int)(n:Nat)(hn:n<18446744073709551616)(O:I.length<=1000000) :
  Τ Θ 306 #[av b,.int .u64 n] (QF b I::L) (λ_ Γ=>Γ = QF b (I++uv n)::L):=by
 have a5:=gT hn;refine Τ.bd (args:=[av b,.int .u64 (n:Int)]) ?_;refine Α.c9 (f:=λx=>RT b I x []) ?_;intro x;simp only[au,ax];refine Nd ?_;intros;refine Α.loop (α:=Nat×List Int×SQ) (λg=>g.1<18446744073709551616/\g.2.1++uv g.1=I++uv n) (λg=>[(0,av b),(1,.int .u64 (g.1:Int))]) (λg=>RT b g.2.1 g.2.2 L) (λg=>g.1) (n,I,x) ⟨hn,rfl⟩ aD (F.refl _) ?_;rintro⟨m,ys,y⟩ ⟨hm,a2⟩;simp only[] at hm a2 ⊢;have a4:=congrArg List.length a2;simp only[ay] at a4;by_cases M:m<128
 .rw[nh M] at a2;refine Nd ?_;intros;refine GO.ef (Ef.a8 (e:=(m:Int)) rfl rfl rfl rfl rfl bh (io _ _) D D) ae ?_;rintro _ _⟨a3,B,rfl,rfl⟩;rw[a2];refine Nd ?_;intros;refine KX.c8 aF ?_ rfl;refine F.trans ?_ (oF ⟨a3,0,B⟩);simp only[RT];exact ak
 .rw[qr M] at a2;refine Nd ?_;intros
  have e1:IntKind.u8.wrap (m:Int)=((m % 256:Nat):Int):=by
   rw[IntKind.wrap_u8'];omega
  rw[e1];refine GO.ev (Ev.YP rfl rfl D D ae ae) ae ?_;rw[bD,show(128:Int).toNat=128 from rfl,MQ (m % 256) D,show m % 256 % 128=m % 128 by omega];refine Nd ?_;intros;refine GO.ef (Ef.a8 (e:=((m % 128+128:Nat):Int)) rfl rfl rfl rfl rfl bh (io _ _) D D) ae ?_;rintro _ _⟨a3,B,rfl,rfl⟩;refine Nd ?_;intros;refine GO.ev (Ev.shr rfl rfl ae) ae ?_
  have e2:((m:Nat):Int).fdiv (2 ^ min ((7:Int).toNat) IntKind.u64.bits)=((m / 128:Nat):Int):=by
   rw[dM _ ae];simp[IntKind.bits]
  rw[e2];refine Nd ?_;intros;refine⟨(m / 128,ys++[((m % 128+128:Nat):Int)],⟨a3,0,B⟩),⟨D,aj⟩,D,aD,?_⟩;simp only[RT];exact ak
theorem HV{x:Nat}(h:x<18446744073709551616):x ^^^ 18446744073709551615=18446744073709551615 - x:=by
 have K:(BitVec.ofNat 64 x ^^^ BitVec.allOnes 64).toNat=(~~~ BitVec.ofNat 64 x).toNat:=by rw[BitVec.xor_allOnes]
 grind
theorem AA(n:Int)(h0 : -9223372036854775808<=n)(K:n<=9223372036854775807) :
  Τ Θ 307 #[J n] [] (λv L=>v=.int .u64 (zz n)/\L=[]):=by
 refine Τ.bd ?_;refine Nd ?_;intros;refine GO.ev (Ev.shl rfl rfl ae) ae ?_;refine Nd ?_;intros;refine GO.ev (Ev.shr rfl rfl ae) ae ?_;refine Nd ?_;intros;have e0:min ((1:Int).toNat) IntKind.u64.bits=1:=by decide
 have B:min ((63:Int).toNat) IntKind.i64.bits=63:=by decide
 rw[e0,B];by_cases hn:n<0
 .have e1:IntKind.u64.wrap (IntKind.u64.wrap n*2 ^ 1)=(((18446744073709551616+2*n).toNat:Nat):Int):=by
   rw[IntKind.wrap_u64,IntKind.wrap_u64];omega
  have e2:IntKind.u64.wrap (n.fdiv (2 ^ 63))=((18446744073709551615:Nat):Int):=by
   rw[dM _ ae,IntKind.wrap_u64];omega
  rw[e1,e2];refine GO.ev (Ev.v8 rfl rfl D D D D) ae ?_;rw[bD,bD,HV D];refine Nd ?_;intros;refine KX.a8 aF (F.refl _) ⟨?_,rfl⟩;grind [Pt,zz]
 .have e1:IntKind.u64.wrap (IntKind.u64.wrap n*2 ^ 1)=((2*n.toNat:Nat):Int):=by
   rw[IntKind.wrap_u64,IntKind.wrap_u64];omega
  have e2:IntKind.u64.wrap (n.fdiv (2 ^ 63))=((0:Nat):Int):=by
   rw[dM _ ae,IntKind.wrap_u64];omega
  rw[e1,e2];refine GO.ev (Ev.v8 rfl rfl D D D D) ae ?_;rw[bD,bD,Nat.xor_zero];refine Nd ?_;intros;refine KX.a8 aF (F.refl _) ⟨?_,rfl⟩;simp only[Pt,zz,Ν hn]
def lU{L:Η}(b:Nat)(I:List Int)(n:Int)(h0 : -9223372036854775808<=n)(K:n<=9223372036854775807)(O:I.length<=1000000) :
  Τ Θ 284 #[av b,J n] (QF b I::L) (λ_ Γ=>Γ = QF b (I++uv (zz n))::L):=by
 refine Τ.bd ?_;refine Nd ?_;intros;(first|refine GO.ef (Ef.call (AA n h0 K) rfl fQ) ae ?_);rintro _ _⟨_,⟨rfl,rfl⟩,hL⟩;simp only[au,ax] at hL;subst hL;refine GO.ef (Ef.j9 (tQ b I (zz n) (kR h0 K) O) rfl) ae ?_;rintro _ _ rfl;refine Nd ?_;intros;exact KX.c8 aF (F.refl _) rfl
def Dk{L:Η}(b:Nat)(I:List Int)(O:I.length<=1000000000) :
  Τ Θ 287 #[av b] (QF b I::L) (λv Γ=>∃ad cap,v=ah ad I.length cap/\I.length<=cap/\Γ = Ω (dJ .u8) 1 5 ad cap I::QF b I::L):=by
 refine Τ.bd ?_;refine Α.c9 (f:=λx=>RT b I x []) ?_;intro x;simp only[au,ax];refine Nd ?_;intros;refine GO.ca (sD _ _ _ I rfl O) ?_;rintro _ _⟨M,B,rfl,rfl⟩;refine GO.g8 (mW (ad:=M)) ?_;rintro⟨a2,_⟩;refine Nd ?_;intros;exact KX.a8 aF (F.c7 (oF x)) ⟨M,B,rfl,a2,rfl⟩
def Dl{L:Η}(b:Nat)(I:List Int)(t:Bool)(O:I.length<=1000000) :
  Τ Θ 285 #[av b,.bool t] (QF b I::L) (λ_ Γ=>Γ = QF b (I++[if t=true then 1 else 0])::L):=by
 refine Τ.bd ?_;refine Α.c9 (f:=λx=>RT b I x []) ?_;intro x;simp only[au,ax];cases t with
 | true =>
  refine Nd ?_;intros;refine GO.ef (Ef.a8 (e:=(1:Int)) rfl rfl rfl rfl rfl bh (io _ _) D D) ae ?_;rintro _ _⟨M,B,rfl,rfl⟩;refine Nd ?_;intros;refine KX.c8 aF ?_ rfl;refine F.trans ?_ (oF ⟨M,0,B⟩);simp only[RT];exact ak
 | false =>
  refine Nd ?_;intros;refine GO.ef (Ef.a8 (e:=(0:Int)) rfl rfl rfl rfl rfl bh (io _ _) D D) ae ?_;rintro _ _⟨M,B,rfl,rfl⟩;refine Nd ?_;intros;refine KX.c8 aF ?_ rfl;refine F.trans ?_ (oF ⟨M,0,B⟩);simp only[RT];exact ak
def On(l:List Int):List Int:=l.flatMap λn=>uv (zz n)
theorem mX:∀{l:List Int},(∀x∈l,vi x)->(On l).length<=10*l.length
 | [],_=>an _
 | n::l,h=>by
  have K:=mX (l:=l) (λx O=>h x (az _ O));obtain⟨T,h3⟩:=h n aA;have h4:=gT (kR T h3);show(uv (zz n)++On l).length<=10*(l.length+1);rw[ay];omega
theorem IV(l:List Int)(n:Int):On (l++[n])=On l++uv (zz n):=by
 grind [On]
theorem tT{L:Η}(b:Nat)(I:List Int)(ad:OA)(n c:Nat)(ys:List Int)[hrd:F2 L ad Int (dJ .i64) 1 ys](hn:n=ys.length)(Y:∀y∈ys,vi y)(O:I.length+10*ys.length+10<=1000000) :
  Τ Θ 286 #[av b,ah ad n c] (QF b I::L) (λ_ Γ=>Γ = QF b (I++uv ys.length++On ys)::L):=by
 subst hn;have a6:=gT (n:=ys.length) D;refine Τ.bd ?_;refine Nd ?_;intros;refine GO.ca (tQ b I ys.length D D) ?_;rintro _ _ rfl;refine Nd ?_;intros;refine Α.loop (α:=Nat) (λi=>i<=ys.length) (λi=>[(0,av b),(11,ah ad ys.length c),(12,J (ys.length:Int)),(13,J (i:Int))]) (λi=>QF b (I++uv ys.length++On (ys.take i))::L) (λi=>ys.length - i) 0 D aD (by rw[bj];show F _ (QF b (I++uv ys.length++[])::L);rw[aI];exact F.refl _) ?_;intro i hi;by_cases M:i<ys.length
 case neg =>
  rw[aM D];refine Nd ?_;intros;exact KX.c8 aF (F.refl _) rfl
 have a2:(i:Int).toNat=i:=D;have hm:=Y _ (bA M);obtain⟨a4,a5⟩:=hm;have a3:=mX (l:=ys.take i) aj;rw[aP] at a3
 have B:(I++uv ys.length++On (ys.take i)).length<=1000000:=by
  rw[ay,ay];omega
 refine Nd ?_;intros;rw[a2];refine GO.ca (lU b (I++uv ys.length++On (ys.take i)) ys[i]! a4 a5 B) ?_;rintro _ _ rfl;refine Nd ?_;intros;refine⟨i+1,D,D,?_,?_⟩
 .rw[bC i];exact aD
 .rw[aB M,IV,<-D7 M,aH (I++uv ys.length)];exact F.refl _
