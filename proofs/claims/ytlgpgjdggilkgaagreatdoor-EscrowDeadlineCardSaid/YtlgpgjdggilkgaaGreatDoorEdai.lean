/- Lemmas. -/
import Derived.Test.YtlgpgjdggilkgaaGreatDoorEdah
import Derived.ArgAppend
set_option linter.all false
namespace Go.V
section
section fv
variable {P:Program}{N:Nat}{env:Env}{L:Ι}{Ρ:F8}{ty:TypeId}
def Fp(P:Program)(gf:FuncId)(cap:χ)(A:List (χ))(Lg Lx:Ι):Prop :=
 ∀(l:Nat) (J8 Jx:Nat->HP),(∀k (hk:k<A.length),Sp P l A[k] [J8 k] (λv Ε=>(v=.bool true/\Ε = [J8 (k+1)])\/(v=.bool false/\Ε = [Jx k]))) ->
  Υ P gf (.func (.yield l) #[] #[]::cap).toArray (J8 0::Lg) (λ_ Ε=>Ε = J8 A.length::Lx\/∃k,Ε = Jx k::Lx)
def Β.d8{g:Operand}{ps:Array Tmp}{assign body:Code}{gf:FuncId}{cap:χ}{a2:List (χ)}{Lg Lx:Ι}(it:Fp P gf cap a2 Lg Lx)(hg:bG env g=some (.func (.func gf) #[] cap.toArray))
  (b4:Enters P gf) (b7:∀p∈ps,p<N) (a9:∀vs∈a2,vs.length=ps.size) (G3:Nat->Ι) (T:E L (G3 0++Lg))
  (a4:∀k (hk:k<a2.length),Β P N assign (TH env (ps.toList.zip a2[k])) (G3 k) (F8.seq (λa7 Ε=>Β P N body a7 Ε (uX Ρ env Lx (G3 (k+1)))) (λ_ _ _=>False)))
  (a5:Ρ .normal env (G3 a2.length++Lx)):Β P N (.rangeFunc g ps assign body) env L Ρ:=by
 intro Δ θ aa a w hr i;obtain⟨ο,ea,hm,s⟩:=i;have s0:Sat θ (G3 0++Lg++(E5 ο++aa)) w:=T θ _ w s;-- what is VS same in both cases
 have a6:∀(fn:FuncId) (l H7:Nat) (A:List Nat) (w₁:World),(Instr.enterLoop fn a.tmps ps assign body Δ).run P w=.ok (l,PZ A) w₁ ->
   Sat θ (sh l (.loop { state:=.ready,pending:=none,fn,tmps:=a.tmps,params:=ps,assign,body,defers:=H7 })::(E5 A++(G3 0++Lg++(E5 ο++aa)))) w₁ ->
   ∃(l:Nat) (A:List Deferred) (w₁:World) (Ξ:Deferred) (w₁' : World) (f:FuncId) (args:Array Value) (w₂:World),
   (Instr.enterLoop fn a.tmps ps assign body (FW Δ).round).run P w=.ok (l,A) w₁ /\
   (resolve a.eval (rangeCall g l) 0).run P w₁=.ok Ξ w₁' /\
   (∀f',Target.leads P w₁' Ξ.target Ξ.args=some f'->(FW Δ).fn f') /\
   (invoke Ξ.target Ξ.args).run P w₁' = .ok (.enter f args) w₂ /\
   ((FW Δ).depth.isSome=true->1<=0) /\
   CallsIn (FW Δ) (0 - 1) P f args w₂ (rangePost (FW Δ) 0 P l (QK θ aa N Ρ) { a with defers:=A++a.defers }):=by
  intro fn l H7 A w₁ he s1;obtain⟨J,a3⟩:∃J:Loop,J={ state:=.ready,pending:=none,fn,tmps:=a.tmps,params:=ps,assign,body,defers:=H7 }:=⟨_,rfl⟩;rw[<-a3] at s1;have b2:J.state=.ready:=by rw[a3]
  have b1:J.pending=none:=by rw[a3]
  have U:∀k (hk:k<a2.length),Sp P l a2[k] [cw (sh l (.loop J)::G3 k)] (λv Ε=>(v=.bool true/\Ε = [cw (sh l (.loop J)::G3 (k+1))])\/(v=.bool false/\Ε = [hex λx:Code×Ι=>cw (ee (ij Ρ env Lx x.1 x.2)::sh l (.loop { J with state:=.done,pending:=some x.1 })::x.2)])):=by
   intro k hk;refine pq b2 b1 (by rw[a3];exact a9 _ (cY _)) (by rw[a3];exact b7) (env:=env) ?_ ?_
   .rw[a3];exact⟨ea.size,ea.at_⟩
   .rw[a3];exact a4 k hk
  have ht:=it l (λk=>cw (sh l (.loop J)::G3 k)) (λ_=>hex λx:Code×Ι=>cw (ee (ij Ρ env Lx x.1 x.2)::sh l (.loop { J with state:=.done,pending:=some x.1 })::x.2)) U;have b5:a.eval g=.func (.func gf) #[] cap.toArray:=aI ea.O4 hg;refine⟨l,PZ A,w₁,{ target:=.fn (.func gf) cap.toArray,args:=#[.func (.yield l) #[] #[]] },w₁,gf,(.func (.yield l) #[] #[]::cap).toArray,w₁,he,?_,λ_ _=>trivial,?_,(λh=>by cases h),mO ?_⟩
  .simp only[resolve,Deferred.ofValue,b5];simp[Act.eval]
  .have:=b4 (.func (.yield l) #[] #[]::cap).toArray w₁
   simpa [invoke] using this
  have s2:Sat θ (cw (sh l (.loop J)::G3 0)::Lg++(E5 A++(E5 ο++aa))) w₁:=by
   refine Sat.a8 (Φ:=sh l (.loop J)::G3 0) (s1.perm ?_);simp only[aq];refine List.Perm.cons _ ?_;rw[aF];refine TI.trans ?_;refine List.Perm.append_left _ ?_;exact TI
  refine(ht.calls θ _ w₁ s2).mono ?_;rintro e w₂ ⟨v,Ε,rfl,b3,s3⟩;rcases b3 with rfl|⟨k,rfl⟩
  .have s4:Sat θ (sh l (.loop J)::(G3 a2.length++(Lx++(E5 A++(E5 ο++aa))))) w₂:=Sat.Qd (Φ:=sh l (.loop J)::G3 a2.length) s3;have hh:=s4.M8;refine⟨none,_,(by rw[<-b1];exact jy hh (by rw[b2];simp)),?_⟩;have s5:=(Sat.c7 (QN:={ J with state:=.exhausted }) s4).tail;refine⟨env,G3 a2.length++Lx,⟨A++ο,⟨ea.size,ea.at_⟩,by simp[PZ,hm],?_⟩,a5⟩;have e:E5 (A++ο)++aa=E5 A++(E5 ο++aa):=by simp[E5]
   rw[e,aF];exact s5
  .obtain⟨⟨c,L₂⟩,s4⟩:=Sat.Te (L:=Lx++(E5 A++(E5 ο++aa))) s3;have s5:Sat θ (ee (ij Ρ env Lx c L₂)::(sh l (.loop { J with state:=.done,pending:=some c })::(L₂++(Lx++(E5 A++(E5 ο++aa)))))) w₂:=Sat.Qd (Φ:=ee (ij Ρ env Lx c L₂)::sh l (.loop { J with state:=.done,pending:=some c })::L₂) s4;have hj:=s5.Td;have s6:=s5.tail;have hh:=s6.M8;have s7:=(Sat.c7 (QN:={ ({ J with state:=.done,pending:=some c }:Loop) with state:=.exhausted }) s6).tail;refine⟨some c,_,jy hh cg,?_⟩
   have b0:At N env (L₂++Lx) θ aa { a with defers:=PZ A++a.defers } { w₂ with heap:=w₂.heap.setIfInBounds l (.loop { ({ J with state:=.done,pending:=some c }:Loop) with state:=.exhausted }) }:=by
    refine⟨A++ο,⟨ea.size,ea.at_⟩,by simp[PZ,hm],?_⟩;have e:E5 (A++ο)++aa=E5 A++(E5 ο++aa):=by simp[E5]
    rw[e,aF];exact s7
   cases c with
   | ret=>exact wpIn_ret ⟨env,_,b0,hj⟩
   | exit r=>exact wpIn_exit ⟨env,_,b0,hj⟩
   | _=>exact hj.elim
 refine wpIn_rangeFunc λfn _=>?_;cases Δ with
 | none =>
  have s1:=s0.alloc (o:=.deferred (some []));have s2:=s1.alloc (o:=.loop { state:=.ready,pending:=none,fn,tmps:=a.tmps,params:=ps,assign,body,defers:=w.heap.size });refine a6 fn (w.heap.size+1) w.heap.size [w.heap.size] _ jJ ?_;rw[World.size_alloc] at s2;exact s2
 | some l =>
  obtain⟨J,Y',hY⟩:=hr l rfl
  have b6:w.heap[l]? = some (.loop J):=by
   have s1:Sat θ (sh l (.loop J)::(G3 0++Lg++(E5 ο++Y'))) w:=s0.perm (by
    have I:(G3 0++Lg++(E5 ο++aa)).Perm (G3 0++Lg++(E5 ο++(sh l (.loop J)::Y'))):=(hY.append_left _).append_left _;refine I.trans ?_;rw[<-aF,<-aF (G3 0++Lg)];exact dN)
   exact s1.M8
  exact a6 fn w.heap.size J.defers [] _ (jI b6) s0.alloc
def E.SL{Φ L:Ι}:E (cw Φ::L) (Φ++L):=λθ R w s=>by
 have h:Sat θ (Φ++(L++R)) w:=Sat.Qd (L:=L++R) s;rw[aF];exact h
def E.f8{Φ L:Ι}:E (Φ++L) (cw Φ::L):=λθ R w s=>by
 rw[aF] at s;exact Sat.a8 s
def R5(Φ hx:HP):HP:=λι _=>Φ ι Hp.emp/\hx ι Hp.emp
def Og.and{Φ hx:HP}(hA:Og Φ)(hB:Og hx):Og (R5 Φ hx) :=
 ⟨λ_ _ h=>h,λι ι' _ hs h=>⟨hA.mono ι ι' _ hs h.1,hB.mono ι ι' _ hs h.2⟩⟩
def E.Uf{Φ hx:HP}{L:Ι}:E (R5 Φ hx::L) (Φ::hx::L):=λθ R w s=>by
 obtain⟨ok,ι,h',a,b1,c,G6,E4,D5,d1,d2,d3,d4,d5,d6⟩:=s;exact⟨ok,ι,h',a,b1,c,G6,Hp.emp,D5,d1,Hp.c7 _,Hp.a8 _,d4,d5.1,G6,Hp.emp,D5,d1,Hp.c7 _,Hp.a8 _,Hp.sub.refl _,d5.2,d6⟩
def E.g8{Φ hx:HP}{L:Ι}(hA:Og Φ)(hB:Og hx):E (Φ::hx::L) (R5 Φ hx::L):=λθ R w s=>by
 obtain⟨ok,ι,h',a,b1,c,RU,E4,D5,d1,d2,d3,d4,d5,Vc,h₃,h₄,e1,e2,e3,e4,e5,e6⟩:=s;exact⟨ok,ι,h',a,b1,c,ι,Hp.emp,h₄,Hp.sub.refl _,Hp.c7 _,Hp.a8 _,e4.trans d4,⟨hA.mono _ _ _ d1 (hA.QM _ _ d5),hB.mono _ _ _ e1 (hB.QM _ _ e5)⟩,e6⟩
def eV{α:Type}{f:α->HP}{l:List α}(hf:∀x,Og (f x)):Og (η f l) :=
 ⟨λ_ _ h=>h,λι ι' _ hs h x M=>(hf x).mono ι ι' _ hs (h x M)⟩
end fv
end
section
def Pt{α:Type}(Η:α->χ)(sz ζ:Nat)(ad:OA)(cap:Nat)(G:List α):HP:=λι h =>
 μ Η sz ζ ad cap G ι h\/((cap=G.length/\G.length<=maxLen)/\τ Η sz ad G ι h)
class Ug (L:Ι) (ad:OA) (α:outParam Type) (Η:outParam (α->χ)) (sz ζ:outParam Nat) (cap:outParam Nat) (G:outParam (List α)) (R:outParam (Ι)):Prop where
 perm:L.Perm (Pt Η sz ζ ad cap G::R)
instance {α:Type}(L:Ι)(Η:α->χ)(sz ζ:Nat)(ad:OA)(cap:Nat)(G:List α):Ug (Pt Η sz ζ ad cap G::L) ad α Η sz ζ cap G L:=⟨List.Perm.refl _⟩
instance {α:Type}(Φ:HP)(L:Ι)(Η:α->χ)(sz ζ:Nat)(ad:OA)(cap:Nat)(G:List α)(R:Ι)[h:Ug L ad α Η sz ζ cap G R]:Ug (Φ::L) ad α Η sz ζ cap G (Φ::R):=⟨(h.perm.cons Φ).trans (List.Perm.swap _ _ _)⟩
section
variable {α:Type}{θ:Th}{Η:α->χ}{sz ζ:Nat}{ad:OA}{cap:Nat}{G:List α}{L:Ι}{w:World}
def Sat.VX(s:Sat θ (Pt Η sz ζ ad cap G::L) w):Sat θ (μ Η sz ζ ad cap G::L) w\/((cap=G.length/\G.length<=maxLen)/\Sat θ (τ Η sz ad G::L) w):=by
 obtain⟨ok,ι,h,a,b1,c,G6,E4,D5,d1,d2,d3,d4,e,d6⟩:=s;rcases e with e|⟨e1,e2⟩
 .exact .inl ⟨ok,ι,h,a,b1,c,G6,E4,D5,d1,d2,d3,d4,e,d6⟩
 .exact .inr ⟨e1,ok,ι,h,a,b1,c,G6,E4,D5,d1,d2,d3,d4,e2,d6⟩
def E.Vl:E (μ Η sz ζ ad cap G::L) (Pt Η sz ζ ad cap G::L):=λθ R w s=>by
 obtain⟨ok,ι,h,a,b1,c,G6,E4,D5,d1,d2,d3,d4,e,d6⟩:=s;exact⟨ok,ι,h,a,b1,c,G6,E4,D5,d1,d2,d3,d4,.inl e,d6⟩
def E.o6(hm:G.length<=maxLen):E (τ Η sz ad G::L) (Pt Η sz ζ ad G.length G::L):=λθ R w s=>by
 obtain⟨ok,ι,h,a,b1,c,G6,E4,D5,d1,d2,d3,d4,e,d6⟩:=s;exact⟨ok,ι,h,a,b1,c,G6,E4,D5,d1,d2,d3,d4,.inr ⟨⟨rfl,hm⟩,e⟩,d6⟩
def Sat.f9(s:Sat θ (Pt Η sz ζ ad cap G::L) w):RW w Η sz ad G:=by
 rcases s.VX with s|⟨_,s⟩
 .exact s.VQ
 .exact s.VR
def KX{R' : Ι}[h:Ug L ad α Η sz ζ cap G R']:∀θ R w,Sat θ (L++R) w->G.length<=cap/\cap<=9223372036854775807:=λθ R w s=>by
 rcases (s.perm (h.perm.append_right R)).VX with s|⟨⟨e1,e2⟩,s⟩
 .have:=s.Qw
  simp only[maxLen] at this;exact⟨this.2.1,D⟩
 .simp only[maxLen] at e2;omega
end
instance {α:Type}(L:Ι)(Η:α->χ)(sz ζ:Nat)(ad:OA)(cap:Nat)(G:List α):F5 (Pt Η sz ζ ad cap G::L) ad α Η sz G:=⟨λ_ _ _ s=>Sat.f9 s⟩
section ops
variable {P:Program}{N:Nat}{env:Env}{L:Ι}{ty:TypeId}
def Ef.m5{t:TypeId}{x y:Operand}{α:Type}{Η:α->χ}{b:Addr}{a7:OA}{n c n2 c2 sz ζ bb:Nat}{G ys:List α}{z:χ}[ht:M9 P t ζ sz bb z][hr:F5 L (some b) α Η sz G][hq:F5 L a7 α Η sz ys]
  (M:bG env x=some (.slice (some b) n c)) (U:bG env y=some (.slice a7 n2 c2)) (hn:n=G.length) (hc:c=G.length) (b7:n2=ys.length) (h0:0<ys.length) (hb:(G.length+ys.length)*bb<=140737488355328) (hm:G.length+ys.length<=9223372036854775807)
  : Ef P L env (.call { callee:=.builtin .append,args:=#[x,y],argTypes:=#[t,t] }) ty (λv Ε=>∃a6 A,v=.slice a6 (G++ys).length A/\Ε = μ Η sz ζ a6 A (G++ys)::L) :=
 Ef.val (λθ R a w ea s b8 pos af g=>by
  subst hn hc b7;obtain⟨f1,f2⟩:=hr.rd θ R w s;obtain⟨g1,g2⟩:=hq.rd θ R w s;obtain⟨ii,z0,i1,i2,i3,i4,i5⟩:=ht.Γ;rcases g2 with g2|⟨a2,rfl,g3⟩
  .subst g2;simp at h0
  have Κ:∀j u,(G.flatMap Η)[j]? = some u->w.cell? (b.add j)=some u:=by
   rcases f2 with f2|⟨J,e1,f3⟩
   .subst f2;simp
   .cases e1;exact f3
  obtain⟨v',dH,a3,ho,hg⟩:=run_append_arg_grows (P:=P) (w:=w) t ty ζ ii z0 sz bb ht.under i1 i2 i4 i5 (by rw[<-ht.Tf,<-i3];simp) ht.pos b G.length G.length (G.flatMap Η) (dd f1) Κ a2 ys.length c2 (ys.flatMap Η) (dd g1) g3 D (by simp only[maxLen];omega) hb;obtain⟨b6,ho⟩:=ho;rcases ho with⟨_,hn⟩|⟨fJ,A,b0,rfl,b4,b5,b9,b1,b2,a4⟩
  .omega
  have b3:=lX _ a3;have ok:θ.ok dH:=⟨by rw[hg.tape];exact s.1.tape,by rw[hg.os];exact s.1.os,by rw[hg.output];exact s.1.output,aO s.1.drawn b3⟩
  have a5:∀x∈G++ys,(Η x).length=sz:=λx M=>by
   rcases J4 M with M|M
   .exact f1 x M
   .exact g1 x M
  have a9:(G++ys).length=G.length+ys.length:=by simp
  have s2:Sat θ (sh fJ (.cells b0 ζ (0,0))::(L++R)) dH:=s.fresh ok b4 b5 (λk x hk=>by rw[hg.block k (Array.getElem?_eq_some_iff.1 hk).1 cg];exact hk);have s3:=Sat.Rm (cap:=A) s2 a5 D b1 b2 (by rw[a9,a4];simp);refine⟨_,dH,_,?_,⟨some ⟨fJ,0,none⟩,A,by rw[a9],rfl⟩,s3⟩;simp[execOp,resolve,invoke,builtin,aI ea M,aI ea U,a3])
def Ef.l7{t:TypeId}{x y:Operand}{α:Type}{Η:α->χ}{ad a4:OA}{n c n2 c2 sz ζ bb cap:Nat}{G ys:List α}{z:χ}{R1:Ι}[ht:M9 P t ζ sz bb z][hp:Ug L ad α Η sz ζ cap G R1][hq:F5 R1 a4 α Η sz ys]
  (M:bG env x=some (.slice ad n c)) (U:bG env y=some (.slice a4 n2 c2)) (hn:n=G.length) (hc:c=cap) (a5:n2=ys.length) (h0:0<ys.length) (I:∀e∈ys,∀u∈Η e,u.oneCell' = true) (hb:(G.length+ys.length)*bb<=140737488355328) (hm:G.length+ys.length<=9223372036854775807)
  : Ef P L env (.call { callee:=.builtin .append,args:=#[x,y],argTypes:=#[t,t] }) ty (λv Ε=>∃J A,v=.slice J (G++ys).length A/\Ε = Pt Η sz ζ J A (G++ys)::R1):=by
 intro θ R a w o next F9 ha s e1 e2 a6
 have s1:=s.perm (hp.perm.append_right R)
 have sh:∀{ad:OA} {cap n c:Nat},bG env x=some (.slice ad n c)->n=G.length->c=cap->Sat θ (μ Η sz ζ ad cap G::R1++R) w->Oper.wp P o a w next F9:=λM hn hc s2 =>
  Ef.c9 (L:=μ Η sz ζ _ _ G::R1) (R1:=R1) (P:=P) (ty:=ty) (t:=t) M U hn hc a5 I hb hm θ R a w o next F9 ha s2 e1 e2 (λv Ε dH ⟨J,A,q1,q2⟩ s'=>a6 v _ dH ⟨J,A,q1,rfl⟩ (by subst q2;exact E.Vl θ R dH s'))
 rcases Sat.VX (L:=R1++R) s1 with s2|⟨⟨a2,a9⟩,s2⟩
 .exact sh M hn hc s2
 .cases ad with
  | none =>
   have h3:=s2.VR.2
   have a3:G=[]:=by
    rcases h3 with h3|⟨a',a7,_⟩
    .exact h3
    .cases a7
   have hz:cap=0:=by rw[a2,a3];rfl
   subst hz;refine sh M hn hc ?_;rw[a3];exact Sat.d7 Η sz ζ s2.tail
  | some b =>
   exact Ef.m5 (L:=τ Η sz (some b) G::R1) (ζ:=ζ) (P:=P) (ty:=ty) (t:=t) (G:=G) M U hn (hc.trans a2) a5 h0 hb hm θ R a w o next F9 ha s2 e1 e2 (λv Ε dH ⟨J,A,q1,q2⟩ s'=>a6 v _ dH ⟨J,A,q1,rfl⟩ (by
    subst q2;exact E.Vl θ R dH (s'.perm (List.Perm.swap _ _ _)).tail))
def Ef.l0{t:TypeId}{x y:Operand}{α:Type}{Η:α->χ}{ad:OA}{n c sz ζ bb cap b an:Nat}{G:List α}{z cs:χ}{R1 R2:Ι}(e:α)[ht:M9 P t ζ sz bb z][hp:Ug L ad α Η sz ζ cap G R1][hq:Pq R1 b an cs R2]
  (M:bG env x=some (.slice ad n c)) (U:bG env y=some (.slice (some ⟨b,0,none⟩) 1 1)) (he:cs=Η e) (hn:n=G.length) (hc:c=cap) (hs:cs.length=sz) (I:∀u∈cs,u.oneCell' = true) (hb:(G.length+1)*bb<=140737488355328) (hm:G.length+1<=9223372036854775807)
  : Ef P L env (.call { callee:=.builtin .append,args:=#[x,y],argTypes:=#[t,t] }) ty (λv Ε=>∃J A,v=.slice J (G++[e]).length A/\Ε = Pt Η sz ζ J A (G++[e])::R2):=by
 subst he
 have hrd:F5 R1 (some ⟨b,0,none⟩) α Η sz [e]:=⟨λθ R w s=>by
  have hb:=Sat.TD (R:=R) s hq.perm;refine⟨λy U=>by rw[GO U];exact hs,.inr ⟨_,rfl,λi v hv=>?_⟩⟩;rw[fV,ej hb];simpa using hv⟩
 intro θ R a w o next F9 ha s e1 e2 a2
 refine Ef.l7 (P:=P) (ty:=ty) (t:=t) (hp:=hp) (hq:=hrd) M U hn hc rfl (Nat.zero_lt_one) (λy U u hu=>by rw[GO U] at hu;exact I u hu) (by simpa using hb) (by simpa using hm) θ R a w o next F9 ha s e1 e2 (λv Ε dH ⟨J,A,q1,q2⟩ s'=>a2 v _ dH ⟨J,A,q1,rfl⟩ ?_)
 subst q2;have s3:Sat θ (Pt Η sz ζ J A (G++[e])::(obj b an (Η e)::R2++R)) dH:=s'.perm ((hq.perm.append_right R).cons _);exact(s3.perm (List.Perm.swap _ _ _)).tail
end ops
end
end Go.V
namespace Go.Proofs.YtlgpgjdggilkgaaGreatDoor
section
open Go.V
attribute [local irreducible] Β Y GP δ vi Z Ef C0 E CB GB Enters
theorem E7{α:Type}[Inhabited α]{l:List α}{i:Nat}(h:i<l.length):l[i]! = l[i]:=by
 grind
def xs(n:Int):Prop:=-9223372036854775808<=n/\n<=9223372036854775807
theorem bI{α:Type}[Inhabited α]{l:List α}{i:Nat}(h:i<l.length):l[i]!∈l:=ah
theorem Xb(ad:OA)(cap sz:Nat):NJ ad cap sz 0=ad:=by
 unfold NJ;split
 .rfl
 .cases ad with
  | none=>rfl
  | some a=>simp[qk]
theorem ka{α:Type}[Inhabited α]{l:List α}{k:Nat}(h:k<l.length):l.drop k=l[k]!::l.drop (k+1):=by
 grind [bZ]
theorem sU{α β:Type}[Inhabited α][Inhabited β](f:α->β){l:List α}{k:Nat}(h:k<l.length):(l.map f)[k]! = f l[k]!:=by
 grind
abbrev iK:=Int×Int×Int
abbrev π:=List iK
def aK(l:iK):χ:=[K l.1,K l.2.1,K l.2.2]
def fY(t:iK):∀u∈aK t,u.oneCell' = true:=by simp[aK,Value.oneCell']
instance:Rl aK:=⟨fY⟩
structure iI where
 ad:OA
 cap:Nat
 D3:π
 deriving Inhabited
def iI.v(s:iI):Value:=ae s.ad s.D3.length s.cap
abbrev G8(s:iI):HP:=τ aK 3 s.ad s.D3
def ua(s:iI):Og (G8 s):=cT _ _ _ _
def Qz(n:Int):Value:=K n
abbrev I5:Nat:=47
def ju{L:Ι}(ad:OA)(n c:Nat)(G:π)[F5 L ad iK aK 3 G](hn:n=G.length)(hb:n<=1000000) :
  Υ Λ 102 #[ae ad n c] L (λv Ε=>∃J A,v=ae J G.length A/\Ε = μ aK 3 I5 J A G::L):=by
 refine Υ.bd ?_;repeat' first|refine ab ?_|intro _|with_reducible refine CB.dec (λ_=>?_) (λ_=>?_)|with_reducible refine GB.dec (λ_=>?_) (λ_=>?_)|with_reducible refine CB.bool (λ_=>?_) (λ_=>?_)|with_reducible refine GB.bool (λ_=>?_) (λ_=>?_)
 .have h:ad=none:=by assumption
  subst h;refine KX.f9 (.inl rfl) (oI (L:=L) (G:=G)) ?_;intro M;subst M;refine KX.a8 aC (E.c8 aK 3 I5) ⟨_,_,rfl,rfl⟩
 .refine Y.cM (E.d9 (Η:=aK) (sz:=3) (G:=[]) rfl rfl cg cg) ?_;refine Y.ef (Ef.c9 rfl rfl rfl rfl hn (λe _=>fY e) ib ib) ac ?_;rintro _ _⟨J,A,rfl,rfl⟩;refine ML ?_;intros;refine KX.a8 aC (E.refl _) ⟨J,A,rfl,rfl⟩
def a0(l:iK):Prop:=0<=l.1/\0<=l.2.1/\l.2.1<=1099511627776/\1<=l.2.2/\l.2.2<=1099511627776 - l.2.1
def iN{φ ψ:Prop}(k:ψ)(h:Hid ψ->φ:=by intro k;first|refine Y.ci (f:=116) (Hid.out k)|refine δ.ci (f:=116) (Hid.out k)|refine Y.cf (f:=116) rfl (Hid.out k)|refine δ.cf (f:=116) rfl (Hid.out k)|refine KX.RY (Hid.out k)):φ:=h ⟨k⟩
def Yk{φ ψ:Prop}(k:ψ)(h:Hid ψ->φ:=by intro k;(repeat (first|refine ab ?_|intro B8|refine iN ?_));(repeat revert B8);exact Hid.out k):φ:=h ⟨k⟩
def km{L:Ι}(ad:OA)(n c:Nat)(G:π)[F5 L ad iK aK 3 G](hn:n=G.length)(hb:G.length<=4096)(M:∀l∈G,a0 l) :
  Υ Λ 54 #[ae ad n c] L (F7 (.bool true) L):=by
 refine Υ.bd ?_;refine Yk ?_;intros;refine Β.loop (α:=Nat) (λi=>i<=n) (λi=>[(0,ae ad n c),(8,ae ad n c),(9,K n),(10,K (i:Int))]) (λ_=>L) (λi=>n - i) 0 D aG (E.refl _) ?_;intro i hi;by_cases J:i<n
 case neg =>
  refine Yk ?_;intros;exact KX.en ⟨rfl,rfl⟩
 obtain⟨o1,o2,o3,o4,o5⟩:=M _ (bI (D:i<G.length));have A:(i:Int).toNat=i:=D;rw[<-A] at o1 o2 o3 o4 o5;refine Yk ?_;intros;rw[bO o5];refine Yk ?_;intros;refine⟨i+1,D,D,?_,?_⟩
 .rw[bJ i];exact aG
 .exact aj
def ε{κ α:Type}[DecidableEq κ](m:List (κ×α))(k:κ):Option α:=m.lookup k
theorem tn{κ α:Type}[DecidableEq κ]{m:List (κ×α)}{k:κ}{a:α}:∀p∈ez m k a,p∈(k,a)::m:=by
 grind [ez]
def aW(G:π):Int:=G.foldl (λs l=>s+l.2.2) 0
theorem gB(G:π){i:Nat}(h:i<G.length):aW (G.take (i+1))=aW (G.take i)+G[i]!.2.2:=by
 grind [aW,aB]
theorem lA{G:π}(h:∀l∈G,a0 l):∀i,i<=G.length->0<=aW (G.take i)/\aW (G.take i)<=(i:Int)*1099511627776:=by
 intro i;induction i with
 | zero=>intro _;simp[aW]
 | succ i ih =>
  intro hi;obtain⟨I,Q⟩:=ih D;obtain⟨o1,o2,o3,o4,o5⟩:=h _ (bI (D:i<G.length));grind [gB]
def lG{L:Ι}(ad:OA)(n c:Nat)(G:π)[F5 L ad iK aK 3 G](hn:n=G.length)(hb:G.length<=4096)(M:∀l∈G,a0 l) :
  Υ Λ 55 #[ae ad n c] L (F7 (K (aW G)) L):=by
 refine Υ.bd ?_;refine ML ?_;intros;refine Β.loop (α:=Nat) (λi=>i<=n) (λi=>[(0,ae ad n c),(3,K (aW (G.take i))),(6,ae ad n c),(7,K n),(8,K (i:Int))]) (λ_=>L) (λi=>n - i) 0 D aG (E.refl _) ?_;intro i hi;by_cases J:i<n
 case neg =>
  rw[aN D];refine ML ?_;intros;exact KX.en ⟨rfl,rfl⟩
 have A:=lA M i D;obtain⟨o1,o2,o3,o4,o5⟩:=M _ (bI (D:i<G.length));have hs:=gB G (D:i<G.length);have hm:(i:Int)*1099511627776<=4096*1099511627776:=D;refine ML ?_;intros;rw[bB];refine ML ?_;intros;refine⟨i+1,D,D,?_,E.drop⟩;rw[hs,bJ i];exact aG
def Z.TM{P:Program}{L:Ι}{env:Env}{ty:TypeId}{κ α:Type}{t Ρ ζ:TypeId}{z:Value}{x:Operand}{b:Nat}{kv:κ->Value}{Η:α->Value}{m:List (κ×α)}{R:Ι}[ht:PD P t Ρ ζ z][hp:Qg L b κ α kv Η m R](M:bG env x=some (.map (some b))) :
  Z P L env (.call { callee:=.builtin .len,args:=#[x],argTypes:=#[t] }) ty (K (m.length:Int)) :=
 Z.mk (λθ R _ w ea s _ _ _ _=>by
  obtain⟨es,A,e1,e2,e3,e4,e5,s2⟩:=(s.perm (hp.perm.append_right R)).SK;have hb:=s2.M8;have J:(getObj b).run P w=.ok (.map es A) w:=by simp[getObj,Sem.run,hb]
  have a2:es.size=m.length:=by
   have:=congrArg List.length e1
   simpa using this
  simp[execOp,resolve,invoke,aI ea M,builtin,Builtin.len_,run_underlying ht.under,J,goInt,a2])
def Z.A2{P:Program}{L:Ι}{env:Env}{ty:TypeId}{t f off:Nat}{x:Operand}{cs:χ}{v:Value}{fs:Array Field}{fd:Field}(I:P.underlying t=some (.struct fs))(Q:fs[f]? = some fd)(h3:fd.offset=off)(h4:∀w,(isAgg fd.type).run P w=.ok false w)
  (M:bG env x=some (bC cs)) (hv:cs[off]? = some v):Z P L env (.field t x f) ty v :=
 Z.mk (λθ R _ w ea s _ _ _ _=>by
  simp[execOp,aI ea M,Instr.field,run_underlying I,Q,h3,asAgg,part,h4,hv])
def eh(a:Int×Int):χ:=[K a.1,K a.2]
def mf(t:Int×Int):∀u∈eh t,u.oneCell' = true:=by simp[eh,Value.oneCell']
instance:Rl eh:=⟨mf⟩
abbrev Qh:Nat:=67
end
section
open Go.V
abbrev iB(l:List Int):Prop:=∀x∈l,0<=x/\x<=255
def My:∀m,m<256->m ||| 128=m % 128+128:=by decide +kernel
def Mf:∀m,m<256->m &&& 127=m % 128:=by decide +kernel
def uv(n:Nat):List Int:=if h:n<128 then[(n:Int)] else((n % 128+128:Nat):Int)::uv (n / 128)
termination_by n
decreasing_by omega
theorem mY{n:Nat}(h:n<128):uv n=[(n:Int)]:=by rw[uv,dif_pos h]
theorem qq{n:Nat}(h:¬n<128):uv n=((n % 128+128:Nat):Int)::uv (n / 128):=by rw[uv,dif_neg h]
theorem lv(n:Nat):iB (uv n):=by
 induction n using Nat.strongRecOn with
 | _ n ih =>
  grind [mY,qq]
theorem Lp(k:Nat):∀n,n<128 ^ (k+1)->(uv n).length<=k+1:=by
 induction k with
 | zero=>grind [mY]
 | succ k ih =>
  grind [qq]
theorem gV{n:Nat}(h:n<18446744073709551616):(uv n).length<=10:=Lp 9 n (by
 omega)
def Qi:List Int->Nat->Nat->Nat×Int×List Int
 | [],_,_=>(0,3,[])
 | b::t,i,acc=>if(i=9/\1<b)\/(0<i/\b=0) then(0,2,t) else if b<128 then(acc+b.toNat % 128*128 ^ i,0,t) else Qi t (i+1) (acc+b.toNat % 128*128 ^ i)
def zz(n:Int):Nat:=if n<0 then 2*(-(n+1)).toNat+1 else 2*n.toNat
def Uh(u:Nat):Int:=if u % 2=1 then -((u / 2:Nat):Int) - 1 else((u / 2:Nat):Int)
def kP{n:Int}(h0 : -9223372036854775808<=n)(I:n<=9223372036854775807):zz n<18446744073709551616:=by unfold zz;split<;>omega
theorem JT(n:Int):Uh (zz n)=n:=by
 grind [Uh,zz]
def nK{i:Nat}(h:i<=9):(128:Nat) ^ i<=9223372036854775808:=by
 have I:(128:Nat) ^ i<=128 ^ 9:=Nat.pow_le_pow_right ac h;omega
def Iu{a c i:Nat}(ha:a<128 ^ i)(hc:c*128 ^ i<18446744073709551616):a ||| (c*2 ^ (7*i) % 18446744073709551616)=a+c*128 ^ i:=by
 have e:(2:Nat) ^ (7*i)=128 ^ i:=by rw[Nat.pow_mul]
 rw[e,Nat.mod_eq_of_lt hc,Nat.or_comm,nat_join (7*i) (c*128 ^ i) a (by rw[e];exact Nat.mul_mod_left _ _) D,Nat.add_comm]
theorem FN:∀(l:List Int) (i acc:Nat),iB l->i<=9->acc<128 ^ i->(Qi l i acc).1<18446744073709551616
 | [],_,_,_,_,_=>by simp[Qi]
 | b::t,i,acc,hb,hi,ha=>by
  have I:=hb b cg;have hp:=nK hi;simp only[Qi];split
  .simp
  .rename_i A;have hm:=dW b.toNat (show 0<128 by decide);have J:b.toNat % 128*128 ^ i<=127*128 ^ i:=bS _ D;by_cases h9:i=9
   .grind
   .have a2:(128:Nat) ^ (i+1)<=9223372036854775808:=nK D;have a3:(128:Nat) ^ (i+1)=128 ^ i*128:=D;split
    .omega
    .exact FN t (i+1) _ ah D D
theorem LA(n:Nat):∀(cR:List Int) (i acc:Nat),i<=9->(0<i->n≠0)->n*128 ^ i<18446744073709551616->Qi (uv n++cR) i acc=(acc+n*128 ^ i,0,cR):=by
 induction n using Nat.strongRecOn with
 | _ n ih =>
  intro cR i acc hi h0 a3;have J:0<(128:Nat) ^ i:=ah;by_cases h:n<128
  .grind [mY,Qi]
  .rw[qq h]
   have a2:i≠9:=by
    intro h9;subst h9;have Q:128*128 ^ 9<=n*128 ^ 9:=D;have h3:(128:Nat) ^ 9=9223372036854775808:=by decide
    omega
   have A:¬((i=9/\(1:Int)<((n % 128+128:Nat):Int))\/(0<i/\((n % 128+128:Nat):Int)=0)):=by
    rintro (⟨h9,I⟩|⟨h9,I⟩)
    .omega
    .omega
   simp only[aq,Qi];rw[Ο A,Ο D,bB,show(n % 128+128) % 128=n % 128 by omega];have hp:(128:Nat) ^ (i+1)=128 ^ i*128:=D
   have hq:n / 128*128 ^ (i+1)+n % 128*128 ^ i=n*128 ^ i:=by
    rw[hp,Nat.mul_comm (128 ^ i) 128,<-Nat.mul_assoc,<-dX];congr 1;omega
   grind
theorem Kk{n:Nat}(h:n<18446744073709551616)(cR:List Int):Qi (uv n++cR) 0 0=(n,0,cR):=by
 grind [LA]
end
end Go.Proofs.YtlgpgjdggilkgaaGreatDoor
namespace Go.V
section gf
variable {P:Program}{N:Nat}{ops:Array Oper}{done done' : List Nat}{n:Nat}{E8:List PE}{env env' : Env}{L Ε : Ι}{Ρ:F8}
def GF.Q2(hd:(dT ops.size done == dT ops.size done')=true)(he:On env env')(hL:E L Ε)(h:GF P N ops done' n E8 env' Ε Ρ):GF P N ops done n E8 env L Ρ:=by
 have e:=eq_of_beq hd;intro hK hs A θ aa a w S i J a2;rw[e] at A ⊢;exact h hK hs A θ aa a w S (i.less he hL) J a2
def GF.cM(hL:E L Ε)(h:GF P N ops done n E8 env Ε Ρ):GF P N ops done n E8 env L Ρ:=λhK hs A θ aa a w S i J a2=>h hK hs A θ aa a w S (i.less (On.refl _) hL) J a2
end gf
end Go.V
namespace Go.Proofs.YtlgpgjdggilkgaaGreatDoor
open Go.V
abbrev Rq(b:Nat)(G:List Int)(x:Sn)(L:Ι):Ι:=obj b 368 [ae x.ad G.length x.cap]::μ (eU .u8) 1 5 x.ad x.cap G::L
def Qj(b:Nat)(G:List Int):HP:=hex λx:Sn=>cw (Rq b G x [])
def oB{b:Nat}{G:List Int}{L:Ι}(x:Sn):E (Rq b G x L) (Qj b G::L):=E.f9 (f:=λx=>Rq b G x []) x (E.refl _)
attribute [local irreducible] Β Y GP δ vi GF GE Z Ef C0 E CB GB V.Enters
def sD{L:Ι}(ad:OA)(n c:Nat)(G:List Int)[F5 L ad Int (eU .u8) 1 G](hn:n=G.length)(hb:n<=1000000000) :
  Υ Λ 279 #[ae ad n c] L (λv Ε=>∃J A,v=ae J G.length A/\Ε = μ (eU .u8) 1 5 J A G::L):=by
 refine Υ.bd ?_;repeat' first|refine ab ?_|intro _|with_reducible refine CB.dec (λ_=>?_) (λ_=>?_)|with_reducible refine GB.dec (λ_=>?_) (λ_=>?_)|with_reducible refine CB.bool (λ_=>?_) (λ_=>?_)|with_reducible refine GB.bool (λ_=>?_) (λ_=>?_)
 .have h:ad=none:=by assumption
  subst h;refine KX.f9 (.inl rfl) (oI (L:=L) (G:=G)) ?_;intro M;subst M;refine KX.a8 aC (E.c8 (eU .u8) 1 5) ⟨_,_,rfl,rfl⟩
 .refine Y.cM (E.d9 (Η:=eU .u8) (sz:=1) (G:=[]) rfl rfl cg cg) ?_;refine Y.ef (Ef.c9 rfl rfl rfl rfl hn (λe _=>iq _ e) ib ib) ac ?_;rintro _ _⟨J,A,rfl,rfl⟩;refine ML ?_;intros;refine KX.a8 aC (E.refl _) ⟨J,A,rfl,rfl⟩
theorem tS{L:Ι}(b:Nat)(G:List Int)(n:Nat)(hn:n<18446744073709551616)(M:G.length<=1000000) :
  Υ Λ 306 #[ay b,.int .u64 n] (Qj b G::L) (λ_ Ε=>Ε = Qj b (G++uv n)::L):=by
 have a5:=gV hn;refine Υ.bd (args:=[ay b,.int .u64 (n:Int)]) ?_;refine Β.c9 (f:=λx=>Rq b G x []) ?_;intro x;simp only[aq,av];refine ML ?_;intros;refine Β.loop (α:=Nat×List Int×Sn) (λg=>g.1<18446744073709551616/\g.2.1++uv g.1=G++uv n) (λg=>[(0,ay b),(1,.int .u64 (g.1:Int))]) (λg=>Rq b g.2.1 g.2.2 L) (λg=>g.1) (n,G,x) ⟨hn,rfl⟩ aG (E.refl _) ?_;rintro⟨m,ys,y⟩ ⟨hm,a2⟩;simp only[] at hm a2 ⊢;have a4:=congrArg List.length a2;simp only[aA] at a4;by_cases J:m<128
 .rw[mY J] at a2;refine ML ?_;intros;refine Y.ef (Ef.a8 (e:=(m:Int)) rfl rfl rfl rfl rfl aY (iq _ _) D D) ac ?_;rintro _ _⟨a3,A,rfl,rfl⟩;rw[a2];refine ML ?_;intros;refine KX.c8 aC ?_ rfl;refine E.trans ?_ (oB ⟨a3,0,A⟩);simp only[Rq];exact aj
 .rw[qq J] at a2;refine ML ?_;intros
  have e1:IntKind.u8.wrap (m:Int)=((m % 256:Nat):Int):=by
   rw[IntKind.wrap_u8'];omega
  rw[e1];refine Y.ev (Z.YL rfl rfl D D ac ac) ac ?_;rw[bB,show(128:Int).toNat=128 from rfl,My (m % 256) D,show m % 256 % 128=m % 128 by omega];refine ML ?_;intros;refine Y.ef (Ef.a8 (e:=((m % 128+128:Nat):Int)) rfl rfl rfl rfl rfl aY (iq _ _) D D) ac ?_;rintro _ _⟨a3,A,rfl,rfl⟩;refine ML ?_;intros;refine Y.ev (Z.shr rfl rfl ac) ac ?_
  have e2:((m:Nat):Int).fdiv (2 ^ min ((7:Int).toNat) IntKind.u64.bits)=((m / 128:Nat):Int):=by
   rw[dK _ ac];simp[IntKind.bits]
  rw[e2];refine ML ?_;intros;refine⟨(m / 128,ys++[((m % 128+128:Nat):Int)],⟨a3,0,A⟩),⟨D,ah⟩,D,aG,?_⟩;simp only[Rq];exact aj
theorem HJ{x:Nat}(h:x<18446744073709551616):x ^^^ 18446744073709551615=18446744073709551615 - x:=by
 have I:(BitVec.ofNat 64 x ^^^ BitVec.allOnes 64).toNat=(~~~ BitVec.ofNat 64 x).toNat:=by rw[BitVec.xor_allOnes]
 grind
theorem Ax(n:Int)(h0 : -9223372036854775808<=n)(I:n<=9223372036854775807) :
  Υ Λ 307 #[K n] [] (λv L=>v=.int .u64 (zz n)/\L=[]):=by
 refine Υ.bd ?_;refine ML ?_;intros;refine Y.ev (Z.shl rfl rfl ac) ac ?_;refine ML ?_;intros;refine Y.ev (Z.shr rfl rfl ac) ac ?_;refine ML ?_;intros;have e0:min ((1:Int).toNat) IntKind.u64.bits=1:=by decide
 have A:min ((63:Int).toNat) IntKind.i64.bits=63:=by decide
 rw[e0,A];by_cases hn:n<0
 .have e1:IntKind.u64.wrap (IntKind.u64.wrap n*2 ^ 1)=(((18446744073709551616+2*n).toNat:Nat):Int):=by
   rw[IntKind.wrap_u64,IntKind.wrap_u64];omega
  have e2:IntKind.u64.wrap (n.fdiv (2 ^ 63))=((18446744073709551615:Nat):Int):=by
   rw[dK _ ac,IntKind.wrap_u64];omega
  rw[e1,e2];refine Y.ev (Z.w0 rfl rfl D D D D) ac ?_;rw[bB,bB,HJ D];refine ML ?_;intros;refine KX.a8 aC (E.refl _) ⟨?_,rfl⟩;grind [O5,zz]
 .have e1:IntKind.u64.wrap (IntKind.u64.wrap n*2 ^ 1)=((2*n.toNat:Nat):Int):=by
   rw[IntKind.wrap_u64,IntKind.wrap_u64];omega
  have e2:IntKind.u64.wrap (n.fdiv (2 ^ 63))=((0:Nat):Int):=by
   rw[dK _ ac,IntKind.wrap_u64];omega
  rw[e1,e2];refine Y.ev (Z.w0 rfl rfl D D D D) ac ?_;rw[bB,bB,Nat.xor_zero];refine ML ?_;intros;refine KX.a8 aC (E.refl _) ⟨?_,rfl⟩;simp only[O5,zz,Ο hn]
def lS{L:Ι}(b:Nat)(G:List Int)(n:Int)(h0 : -9223372036854775808<=n)(I:n<=9223372036854775807)(M:G.length<=1000000) :
  Υ Λ 284 #[ay b,K n] (Qj b G::L) (λ_ Ε=>Ε = Qj b (G++uv (zz n))::L):=by
 refine Υ.bd ?_;refine ML ?_;intros;(first|refine Y.ef (Ef.call (Ax n h0 I) rfl fT) ac ?_);rintro _ _⟨_,⟨rfl,rfl⟩,hL⟩;simp only[aq,av] at hL;subst hL;refine Y.ef (Ef.k7 (tS b G (zz n) (kP h0 I) M) rfl) ac ?_;rintro _ _ rfl;refine ML ?_;intros;exact KX.c8 aC (E.refl _) rfl
def Dh{L:Ι}(b:Nat)(G:List Int)(M:G.length<=1000000000) :
  Υ Λ 287 #[ay b] (Qj b G::L) (λv Ε=>∃ad cap,v=ae ad G.length cap/\G.length<=cap/\Ε = μ (eU .u8) 1 5 ad cap G::Qj b G::L):=by
 refine Υ.bd ?_;refine Β.c9 (f:=λx=>Rq b G x []) ?_;intro x;simp only[aq,av];refine ML ?_;intros;refine Y.ca (sD _ _ _ G rfl M) ?_;rintro _ _⟨J,A,rfl,rfl⟩;refine Y.g9 (mS (ad:=J)) ?_;rintro⟨a2,_⟩;refine ML ?_;intros;exact KX.a8 aC (E.a8 (oB x)) ⟨J,A,rfl,a2,rfl⟩
def Di{L:Ι}(b:Nat)(G:List Int)(t:Bool)(M:G.length<=1000000) :
  Υ Λ 285 #[ay b,.bool t] (Qj b G::L) (λ_ Ε=>Ε = Qj b (G++[if t=true then 1 else 0])::L):=by
 refine Υ.bd ?_;refine Β.c9 (f:=λx=>Rq b G x []) ?_;intro x;simp only[aq,av];cases t with
 | true =>
  refine ML ?_;intros;refine Y.ef (Ef.a8 (e:=(1:Int)) rfl rfl rfl rfl rfl aY (iq _ _) D D) ac ?_;rintro _ _⟨J,A,rfl,rfl⟩;refine ML ?_;intros;refine KX.c8 aC ?_ rfl;refine E.trans ?_ (oB ⟨J,0,A⟩);simp only[Rq];exact aj
 | false =>
  refine ML ?_;intros;refine Y.ef (Ef.a8 (e:=(0:Int)) rfl rfl rfl rfl rfl aY (iq _ _) D D) ac ?_;rintro _ _⟨J,A,rfl,rfl⟩;refine ML ?_;intros;refine KX.c8 aC ?_ rfl;refine E.trans ?_ (oB ⟨J,0,A⟩);simp only[Rq];exact aj
def N0(l:List Int):List Int:=l.flatMap λn=>uv (zz n)
theorem mT:∀{l:List Int},(∀x∈l,xs x)->(N0 l).length<=10*l.length
 | [],_=>ax _
 | n::l,h=>by
  have I:=mT (l:=l) (λx M=>h x (az _ M));obtain⟨Q,h3⟩:=h n au;have h4:=gV (kP Q h3);show(uv (zz n)++N0 l).length<=10*(l.length+1);rw[aA];omega
theorem IK(l:List Int)(n:Int):N0 (l++[n])=N0 l++uv (zz n):=by
 grind [N0]
theorem tV{L:Ι}(b:Nat)(G:List Int)(ad:OA)(n c:Nat)(ys:List Int)[hrd:F5 L ad Int (eU .i64) 1 ys](hn:n=ys.length)(U:∀y∈ys,xs y)(M:G.length+10*ys.length+10<=1000000) :
  Υ Λ 286 #[ay b,ae ad n c] (Qj b G::L) (λ_ Ε=>Ε = Qj b (G++uv ys.length++N0 ys)::L):=by
 subst hn;have a6:=gV (n:=ys.length) D;refine Υ.bd ?_;refine ML ?_;intros;refine Y.ca (tS b G ys.length D D) ?_;rintro _ _ rfl;refine ML ?_;intros;refine Β.loop (α:=Nat) (λi=>i<=ys.length) (λi=>[(0,ay b),(11,ae ad ys.length c),(12,K (ys.length:Int)),(13,K (i:Int))]) (λi=>Qj b (G++uv ys.length++N0 (ys.take i))::L) (λi=>ys.length - i) 0 D aG (by rw[bA];show E _ (Qj b (G++uv ys.length++[])::L);rw[aJ];exact E.refl _) ?_;intro i hi;by_cases J:i<ys.length
 case neg =>
  rw[aN D];refine ML ?_;intros;exact KX.c8 aC (E.refl _) rfl
 have a2:(i:Int).toNat=i:=D;have hm:=U _ (bI J);obtain⟨a4,a5⟩:=hm;have a3:=mT (l:=ys.take i) ah;rw[aP] at a3
 have A:(G++uv ys.length++N0 (ys.take i)).length<=1000000:=by
  rw[aA,aA];omega
 refine ML ?_;intros;rw[a2];refine Y.ca (lS b (G++uv ys.length++N0 (ys.take i)) ys[i]! a4 a5 A) ?_;rintro _ _ rfl;refine ML ?_;intros;refine⟨i+1,D,D,?_,?_⟩
 .rw[bJ i];exact aG
 .rw[aB J,IK,<-E7 J,aF (G++uv ys.length)];exact E.refl _
