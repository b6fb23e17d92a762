/- Lemmas. -/
import Derived.Test.YtlgpgjdggilkgaaGreatDoorErbk
import Derived.Shelf.Sort.Plain
import Derived.Shelf.Slices.In.SortNone
import Derived.Ground.Names2Prog
set_option linter.all false
set_option maxHeartbeats 4000000
namespace Go.V
section fv
variable {P:Program}{N:Nat}{env:Env}{L:LH}{Ν:E1}{ty:TypeId}
def FP{σ:Type}(P:Program)(gf:FuncId)(cap:LV)(step:σ->LV->σ->Prop)(r:σ->Prop)(s₀:σ)(Lg:LH):Prop :=
 ∀(l:Nat) (Jj Jx:σ->HP),(∀x vs x',step x vs x'->Nt P l vs [Jj x] (λv Y=>(v=.bool true/\Y = [Jj x'])\/(v=.bool false/\Y = [Jx x]))) ->
  Λ P gf (.func (.yield l) #[] #[]::cap).toArray (Jj s₀::Lg) (λ_ Y=>(∃x,r x/\Y = Jj x::Lg)\/∃x,Y = Jx x::Lg)
theorem Δ.f8{g:Operand}{ps:Array Tmp}{assign body:Code}{gf:FuncId}{cap:LV}{σ:Type}{step:σ->LV->σ->Prop}{a7:σ->Prop}{s₀:σ}{Lg:LH}(it:FP P gf cap step a7 s₀ Lg)(hg:χ env g=some (.func (.func gf) #[] cap.toArray))
  (b3:Enters P gf) (b7:∀p∈ps,p<N) (b6:∀x vs x',step x vs x'->vs.length=ps.size) (E5:σ->LH) (hl:A L (E5 s₀++Lg))
  (a3:∀x vs x',step x vs x'->Δ P N assign (OH env (ps.toList.zip vs)) (E5 x) (E1.seq (λa6 Y=>Δ P N body a6 Y (rP Ν env Lg (E5 x'))) (λ_ _ _=>False)))
  (a4:∀x,a7 x->Ν .normal env (E5 x++Lg)):Δ P N (.rangeFunc g ps assign body) env L Ν:=by
 intro Θ θ η a w hr i;obtain⟨ξ,ea,hm,s⟩:=i;have s0:Sat θ (E5 s₀++Lg++(C6 ξ++η)) w:=hl θ _ w s;-- what is Qh same in both cases
 have a5:∀(fn:FuncId) (l F0:Nat) (r:List Nat) (w₁:World),(Instr.enterLoop fn a.tmps ps assign body Θ).run P w=.ok (l,Lj r) w₁ ->
   Sat θ (h1 l (.loop { state:=.ready,pending:=none,fn,tmps:=a.tmps,params:=ps,assign,body,defers:=F0 })::(C6 r++(E5 s₀++Lg++(C6 ξ++η)))) w₁ ->
   ∃(l:Nat) (r:List Deferred) (w₁:World) (Ξ:Deferred) (w₁' : World) (f:FuncId) (args:Array Value) (w₂:World),
   (Instr.enterLoop fn a.tmps ps assign body (FW Θ).round).run P w=.ok (l,r) w₁ /\
   (resolve a.eval (rangeCall g l) 0).run P w₁=.ok Ξ w₁' /\
   (∀f',Target.leads P w₁' Ξ.target Ξ.args=some f'->(FW Θ).fn f') /\
   (invoke Ξ.target Ξ.args).run P w₁' = .ok (.enter f args) w₂ /\
   ((FW Θ).depth.isSome=true->1<=0) /\
   CallsIn (FW Θ) (0 - 1) P f args w₂ (rangePost (FW Θ) 0 P l (QK θ η N Ν) { a with defers:=r++a.defers }):=by
  intro fn l F0 r w₁ he s1;obtain⟨I,a2⟩:∃I:Loop,I={ state:=.ready,pending:=none,fn,tmps:=a.tmps,params:=ps,assign,body,defers:=F0 }:=⟨_,rfl⟩;rw[<-a2] at s1;have b1:I.state=.ready:=by rw[a2]
  have b0:I.pending=none:=by rw[a2]
  have Z:∀x vs x',step x vs x'->Nt P l vs [bW (h1 l (.loop I)::E5 x)] (λv Y=>(v=.bool true/\Y = [bW (h1 l (.loop I)::E5 x')])\/(v=.bool false/\Y = [hex λx:Code×LH=>bW (dp (gB Ν env Lg x.1 x.2)::h1 l (.loop { I with state:=.done,pending:=some x.1 })::x.2)])):=by
   intro x vs x' K;refine nr b1 b0 ay (by rw[a2];exact b7) (env:=env) ?_ ?_
   .rw[a2];exact⟨ea.size,ea.at_⟩
   .rw[a2];exact a3 x vs x' K
  have ht:=it l (λx=>bW (h1 l (.loop I)::E5 x)) (λ_=>hex λx:Code×LH=>bW (dp (gB Ν env Lg x.1 x.2)::h1 l (.loop { I with state:=.done,pending:=some x.1 })::x.2)) Z;have b4:a.eval g=.func (.func gf) #[] cap.toArray:=aH ea.KF hg;refine⟨l,Lj r,w₁,{ target:=.fn (.func gf) cap.toArray,args:=#[.func (.yield l) #[] #[]] },w₁,gf,(.func (.yield l) #[] #[]::cap).toArray,w₁,he,?_,λ_ _=>trivial,?_,(λh=>by cases h),lu ?_⟩
  .simp only[resolve,Deferred.ofValue,b4];simp[Act.eval]
  .have:=b3 (.func (.yield l) #[] #[]::cap).toArray w₁
   simpa [invoke] using this
  have s2:Sat θ (bW (h1 l (.loop I)::E5 s₀)::Lg++(C6 r++(C6 ξ++η))) w₁:=by
   refine Sat.a8 (Μ:=h1 l (.loop I)::E5 s₀) (s1.perm ?_);simp only[aj];refine List.Perm.cons _ ?_;rw[ax];refine OI.trans ?_;refine List.Perm.append_left _ ?_;exact OI
  refine(ht.calls θ _ w₁ s2).mono ?_;rintro e w₂ ⟨v,Y,rfl,b2,s3⟩;rcases b2 with⟨x,K,rfl⟩|⟨k,rfl⟩
  .have s4:Sat θ (h1 l (.loop I)::(E5 x++(Lg++(C6 r++(C6 ξ++η))))) w₂:=Sat.KY (Μ:=h1 l (.loop I)::E5 x) s3;have hh:=s4.IN;refine⟨none,_,(by rw[<-b0];exact iK hh (by rw[b1];simp)),?_⟩;have s5:=(Sat.c7 (L6:={ I with state:=.exhausted }) s4).tail;refine⟨env,E5 x++Lg,⟨r++ξ,⟨ea.size,ea.at_⟩,by simp[Lj,hm],?_⟩,a4 x K⟩;have e:C6 (r++ξ)++η=C6 r++(C6 ξ++η):=by simp[C6]
   grind
  .obtain⟨⟨c,L₂⟩,s4⟩:=Sat.NK (L:=Lg++(C6 r++(C6 ξ++η))) s3;have s5:Sat θ (dp (gB Ν env Lg c L₂)::(h1 l (.loop { I with state:=.done,pending:=some c })::(L₂++(Lg++(C6 r++(C6 ξ++η)))))) w₂:=Sat.KY (Μ:=dp (gB Ν env Lg c L₂)::h1 l (.loop { I with state:=.done,pending:=some c })::L₂) s4;have hj:=s5.Nq;have s6:=s5.tail;have hh:=s6.IN;have s7:=(Sat.c7 (L6:={ ({ I with state:=.done,pending:=some c }:Loop) with state:=.exhausted }) s6).tail;refine⟨some c,_,iK hh bR,?_⟩
   have a9:At N env (L₂++Lg) θ η { a with defers:=Lj r++a.defers } { w₂ with heap:=w₂.heap.setIfInBounds l (.loop { ({ I with state:=.done,pending:=some c }:Loop) with state:=.exhausted }) }:=by
    refine⟨r++ξ,⟨ea.size,ea.at_⟩,by simp[Lj,hm],?_⟩;have e:C6 (r++ξ)++η=C6 r++(C6 ξ++η):=by simp[C6]
    rw[e,ax];exact s7
   cases c with
   | ret=>exact wpIn_ret ⟨env,_,a9,hj⟩
   | exit F=>exact wpIn_exit ⟨env,_,a9,hj⟩
   | _=>exact hj.elim
 refine wpIn_rangeFunc λfn _=>?_;cases Θ with
 | none =>
  have s1:=s0.alloc (o:=.deferred (some []));have s2:=s1.alloc (o:=.loop { state:=.ready,pending:=none,fn,tmps:=a.tmps,params:=ps,assign,body,defers:=w.heap.size });refine a5 fn (w.heap.size+1) w.heap.size [w.heap.size] _ iR ?_;rw[World.size_alloc] at s2;exact s2
 | some l =>
  obtain⟨I,Y',hY⟩:=hr l rfl
  have b5:w.heap[l]? = some (.loop I):=by
   have s1:Sat θ (h1 l (.loop I)::(E5 s₀++Lg++(C6 ξ++Y'))) w:=s0.perm (by
    have J:(E5 s₀++Lg++(C6 ξ++η)).Perm (E5 s₀++Lg++(C6 ξ++(h1 l (.loop I)::Y'))):=(hY.append_left _).append_left _;refine J.trans ?_;grind [dq])
   exact s1.IN
  exact a5 fn w.heap.size I.defers [] _ (iQ b5) s0.alloc
end fv
end Go.V
namespace Go.Proofs.YtlgpgjdggilkgaaGreatDoor
open Go.V
abbrev N0:Nat:=143
abbrev T0:Nat:=22
def Nw(b:Nat)(ks:List Int)(x:OA×Nat):LH:=[Υ (a0 .i64) 1 kR x.1 x.2 ks,obj b T0 [ae x.1 ks.length x.2]]
def T1(b:Nat)(ks:List Int):HP:=hex λx=>bW (Nw b ks x)
def HV(m:List (Int×JR))(Ξ:List (Int×JR))(vs:LV)(d' : List (Int×JR)):Prop:=∃p,d' = Ξ++[p]/\p∈m/\p∉Ξ/\Ξ.length<m.length/\vs=[E p.1]
attribute [local irreducible] Δ R GP Ο h2 GF GE O Ef A8 A CB GB V.Enters bF Ix
def Dn{L0:LH}(bx mb:Nat)(m:List (Int×JR)) :
  FP Tryz.prog 184 [al bx] (HV m) (λΞ=>Ξ.Perm m) [] (obj bx N0 [.map (some mb)]::τ cu cc mb m::L0):=by
 intro i Jj Jx Z;refine Λ.bd (args:=[.func (.yield i) #[] #[],al bx]) ?_;refine Ih ?_;intros;refine R.ef (Ef.j6 rfl) ac ?_;rintro _ _⟨Θ,rfl,rfl⟩;refine Ih ?_;intros;refine Δ.loop (α:=List (Int×JR)) (λz=>z.length<=m.length) (λz=>[(0,.func (.yield i) #[] #[]),(5,al Θ)]) (λz=>Jj z::ft cu cc mb m Θ z::obj bx N0 [.map (some mb)]::L0) (λz=>m.length - z.length) [] (aC _) aA ag ?_;intro z hz;refine Ih ?_;intros;refine R.ef (Ef.j8 rfl) ac ?_;rintro _ _ (⟨rfl,rfl,I⟩|⟨p,rfl,rfl,a2,a3,r⟩)
 .refine Ih ?_;intros;refine KX.c8 aw ?_ (.inl ⟨z,I,rfl⟩);refine(A.at (Μ:=ft cu cc mb m Θ z) A.j9).trans ?_;exact ag
 have a4:=Z z [E p.1] (z++[p]) ⟨p,rfl,a2,a3,r,rfl⟩;refine Ih ?_;intros;refine R.ev (O.j6 (done:=z) rfl rfl) ac ?_;refine Ih ?_;intros;refine R.υ (Y:=Jj z::(ft cu cc mb m Θ (z++[p])::obj bx N0 [.map (some mb)]::L0)) ag ?_;((with_reducible apply R.a8);refine R.OG (A8.yield (a4) rfl rfl eY) ac ?_);rintro _ _⟨_,(⟨rfl,rfl⟩|⟨rfl,rfl⟩),hL⟩
 .simp only[aj,ak] at hL;subst hL;refine Ih ?_;intros;refine⟨z++[p],by simp;omega,by simp;omega,aA,by exact ag⟩
 .simp only[aj,ak] at hL;subst hL;refine Ih ?_;intros;refine KX.a8 aw ?_ (.inr ⟨z,rfl⟩);refine(A.at (Μ:=ft cu cc mb m Θ (z++[p])) A.j9).trans ?_;exact ag
def rN{L:LH}(bx mb:Nat)(m:List (Int×JR))(hm:m.length<=1000000) :
  Λ Tryz.prog 183 #[ae none 0 0,.func (.func 184) #[] #[al bx]] (obj bx N0 [.map (some mb)]::τ cu cc mb m::L) (λv Y=>∃M cap ks,v=ae M ks.length cap/\ks.Perm (m.map (·.1))/\Y = Υ (a0 .i64) 1 kR M cap ks::obj bx N0 [.map (some mb)]::τ cu cc mb m::L):=by
 refine Λ.bd ?_;refine Ih ?_;intros;rename_i b2;refine Δ.f8 (Dn (L0:=L) bx mb m) rfl TB.1 ac (by rintro x vs x' ⟨p,_,_,_,_,rfl⟩;rfl) (λΞ=>[T1 b2 (Ξ.map (·.1))]) ?_ ?_ ?_
 .simp only[aj,ak,aY];refine A.trans ?_ (A.f9 (none,0) (f:=Nw b2 []) (A.refl _));simp only[Nw,aX,aj,ak];refine A.trans (A.c8 (a0 .i64) 1 kR) ?_;exact ag
 .rintro Ξ vs d' ⟨p,rfl,a5,a6,a4,rfl⟩;have a2:(Ξ.map (·.1)).length<=1000000:=by rw[ah];omega
  rw[aL];show Δ _ _ _ ((7,E p.1)::_) _ _;rw[show[p].map (·.1)=[p.1] from rfl];generalize Ξ.map (·.1)=bU at a2;generalize p.1=k;refine Δ.c8 (f:=Nw b2 bU) ?_;rintro⟨a3,c1⟩;simp only[Nw,aj,ak];refine Ih ?_;intros;refine R.ef (Ef.a8 (Β:=a0 .i64) (e:=k) rfl rfl rfl rfl rfl aS (ga _ _) B B) ac ?_;rintro _ _⟨I,r,rfl,rfl⟩;refine Ih ?_;intros;refine KX.round ?_;refine A.trans ?_ (A.f9 (I,r) (f:=Nw b2 (bU++[k])) (A.refl _));simp only[Nw,aj,ak];exact ag
 intro Ξ hd;have hp:(Ξ.map (·.1)).Perm (m.map (·.1)):=hd.map _;generalize Ξ.map (·.1)=bU at *;simp only[aj,ak];refine KX.c7 ?_;refine Ih ?_;intros;refine R.c8 (f:=Nw b2 bU) ?_;rintro⟨I,r⟩;simp only[Nw,aj,ak];refine Ih ?_;intros;refine KX.a8 aw ?_ ⟨I,r,bU,rfl,hp,rfl⟩;exact ag
def qL{L:LH}(bx mb:Nat)(m:List (Int×JR))(hm:m.length<=1000000) :
  Λ Tryz.prog 124 #[.func (.func 184) #[] #[al bx]] (obj bx N0 [.map (some mb)]::τ cu cc mb m::L) (λv Y=>∃M cap ks,v=ae M ks.length cap/\ks.Perm (m.map (·.1))/\Y = Υ (a0 .i64) 1 kR M cap ks::obj bx N0 [.map (some mb)]::τ cu cc mb m::L):=by
 refine Λ.bd ?_;refine Ih ?_;intros;refine R.ca (rN bx mb m hm) ?_;rintro _ _⟨r,c1,ks,rfl,I,rfl⟩;refine Ih ?_;intros;exact KX.en ⟨r,c1,ks,rfl,I,rfl⟩
def vL{L:LH}(mb:Nat):Λ Tryz.prog 125 #[.map (some mb)] L (λv Y=>∃bx,v=.func (.func 184) #[] #[al bx]/\Y = obj bx N0 [.map (some mb)]::L):=by
 refine Λ.bd ?_;refine Ih ?_;intros;rename_i bx;exact KX.en ⟨bx,rfl,rfl⟩
end Go.Proofs.YtlgpgjdggilkgaaGreatDoor
namespace Go.Proofs
open Go.Shelf
def Tryz.T2:Go.Shelf.Ren:=⟨λ|189=>126|125=>121|257=>185|128=>181|129=>182|294=>260|295=>261|296=>262|297=>263|298=>264|299=>265|216=>266|300=>267|301=>268|328=>296|329=>256|330=>257|331=>297|332=>298|215=>122|343=>310|n=>n,λ|28=>22|3=>3|46=>61|0=>0|51=>291|53=>293|4=>4|183=>285|182=>284|131=>206|5=>5|9=>9|218=>348|222=>352|228=>380|229=>381|n=>n,λ|n=>n⟩
def Tryz.Sk:Go.Proofs.Lays.n189 Tryz.prog Tryz.T2:={
 mixed:=by kernel_rfl
 f125:=Tryz.func121.trans (congrArg some (by kernel_rfl))
 f128:=Tryz.func181.trans (congrArg some (by kernel_rfl))
 f129:=Tryz.func182.trans (congrArg some (by kernel_rfl))
 f189:=Tryz.func126.trans (congrArg some (by kernel_rfl))
 f215:=Tryz.func122.trans (congrArg some (by kernel_rfl))
 f216:=Tryz.func266.trans (congrArg some (by kernel_rfl))
 f257:=Tryz.func185.trans (congrArg some (by kernel_rfl))
 f294:=Tryz.func260.trans (congrArg some (by kernel_rfl))
 f295:=Tryz.func261.trans (congrArg some (by kernel_rfl))
 f296:=Tryz.func262.trans (congrArg some (by kernel_rfl))
 f297:=Tryz.func263.trans (congrArg some (by kernel_rfl))
 f298:=Tryz.func264.trans (congrArg some (by kernel_rfl))
 f299:=Tryz.func265.trans (congrArg some (by kernel_rfl))
 f300:=Tryz.func267.trans (congrArg some (by kernel_rfl))
 f301:=Tryz.func268.trans (congrArg some (by kernel_rfl))
 f328:=Tryz.func296.trans (congrArg some (by kernel_rfl))
 f329:=Tryz.func256.trans (congrArg some (by kernel_rfl))
 f330:=Tryz.func257.trans (congrArg some (by kernel_rfl))
 f331:=Tryz.func297.trans (congrArg some (by kernel_rfl))
 f332:=Tryz.func298.trans (congrArg some (by kernel_rfl))
 f343:=Tryz.func310.trans (congrArg some (by kernel_rfl))
 t0:=Tryz.underlying0
 a0:=Tryz.isAgg0
 z0:=Tryz.sizeOf0
 v0:=Tryz.zeroValue0
 t3:=Tryz.underlying3
 a3:=Tryz.isAgg3
 z3:=Tryz.sizeOf3
 v3:=Tryz.zeroValue3
 t4:=Tryz.underlying4
 a4:=Tryz.isAgg4
 z4:=Tryz.sizeOf4
 v4:=Tryz.zeroValue4
 t5:=Tryz.underlying5
 a5:=Tryz.isAgg5
 z5:=Tryz.sizeOf5
 v5:=Tryz.zeroValue5
 t9:=Tryz.underlying9
 a9:=Tryz.isAgg9
 z9:=Tryz.sizeOf9
 v9:=Tryz.zeroValue9
 t28:=Tryz.underlying22
 a28:=Tryz.isAgg22
 z28:=Tryz.sizeOf22
 v28:=Tryz.zeroValue22
 t46:=Tryz.underlying61
 a46:=Tryz.isAgg61
 z46:=Tryz.sizeOf61
 v46:=Tryz.zeroValue61
 t51:=Tryz.underlying291
 a51:=Tryz.isAgg291
 z51:=Tryz.sizeOf291
 v51:=Tryz.zeroValue291
 t53:=Tryz.underlying293
 a53:=Tryz.isAgg293
 z53:=Tryz.sizeOf293
 v53:=Tryz.zeroValue293
 t131:=Tryz.underlying206
 a131:=Tryz.isAgg206
 z131:=Tryz.sizeOf206
 v131:=Tryz.zeroValue206
 t182:=Tryz.underlying284
 a182:=Tryz.isAgg284
 z182:=Tryz.sizeOf284
 v182:=Tryz.zeroValue284
 t183:=Tryz.underlying285
 a183:=Tryz.isAgg285
 z183:=Tryz.sizeOf285
 v183:=Tryz.zeroValue285
 t218:=Tryz.underlying348
 a218:=Tryz.isAgg348
 z218:=Tryz.sizeOf348
 v218:=Tryz.zeroValue348
 t222:=Tryz.underlying352
 a222:=Tryz.isAgg352
 z222:=Tryz.sizeOf352
 v222:=Tryz.zeroValue352
 t228:=Tryz.underlying380
 a228:=Tryz.isAgg380
 z228:=Tryz.sizeOf380
 v228:=Tryz.zeroValue380
 t229:=Tryz.underlying381
 a229:=Tryz.isAgg381
 z229:=Tryz.sizeOf381
 v229:=Tryz.zeroValue381 }
open Go.Sort Go.RowKit in
def Tryz.slices_Sort_int(r off cap:Nat)(zs:List Int)(w:World)(hH:Holds (Value.int .i64) w r off zs.toArray)(I:r<w.heap.size)(a2:zs.length<4611686018427387904) :
  Calls Tryz.prog 126 #[.slice (some ⟨r,off,none⟩) zs.length cap] w λe ab =>
   e=.returned (.tuple #[])/\∃n os,ab = grow (putRow (Value.int .i64) (Sort.ahead w n) r off (zs.mergeSort λx y=>decide (x<=y)).toArray) os:=Any.slices_Sort_int Tryz.Sk r off cap zs w hH I a2
open Go.RowKit Go.Sort in
def Tryz.slices_Sort_int_none(p:Option Addr)(cap:Nat)(w:World) :
  Calls Tryz.prog 126 #[.slice p 0 cap] w λe ab=>e=.returned (.tuple #[])/\ab = w:=Any.slices_Sort_int_none Tryz.Sk p cap w
end Go.Proofs
namespace Go.Proofs.YtlgpgjdggilkgaaGreatDoor
section
open Go.V
def lV(D:List Int):List Int:=D.mergeSort λx y=>decide (x<=y)
def jL(D:List Int):(lV D).Perm D:=List.mergeSort_perm _ _
def uA(D:List Int):(lV D).Pairwise (λa b=>a<=b):=by
 have h:=List.pairwise_mergeSort (le:=λx y:Int=>decide (x<=y)) (by intro a b c;simp;omega) (by intro a b;simp;omega) D;exact h.imp λq=>by simpa using q
def xx{D ys:List Int}(h:D.Perm ys):lV D=lV ys :=
 (((jL D).trans h).trans (jL ys).symm).eq_of_pairwise (le:=λa b=>a<=b) (λa b _ _ J U=>B) (uA D) (uA ys)
def fy(N:eu):List Int:=lV (N.δ.map (·.1)++(N.Ζ.map (·.1)).filter λk=>decide ((dV N.δ k).isNone=true))
def ll(N:eu):(fy N).length<=N.δ.length+N.Ζ.length:=by
 unfold fy;rw[(jL _).length_eq,aq,ah];have:=dN (λk=>decide ((dV N.δ k).isNone=true)) (N.Ζ.map (·.1))
 rw[ah] at this;omega
attribute [local irreducible] Δ R GP Ο h2 GF GE O Ef A8 A CB GB V.Enters bF Ix
def Au{L:LH}(M:OA)(cap:Nat)(D:List Int)(hl:D.length<=1000000) :
  Λ Tryz.prog 126 #[ae M D.length cap] (Υ (V.a0 .i64) 1 kR M cap D::L) (C9 (.tuple #[]) (Υ (V.a0 .i64) 1 kR M cap (lV D)::L)) :=
 Λ.f5 Ia (jL D).length_eq B (λ_ w=>Tryz.slices_Sort_int_none M cap w) (λr w h hb=>Tryz.slices_Sort_int r 0 cap D w h hb B)
def rA{L:LH}(nb lb:Nat)(d Q:Int)(n:E0)(hb:n.δ.length<=100000)(hp:n.Ζ.length<=100000) :
  Λ Tryz.prog 64 #[al nb] (a1 nb lb d Q n L) (λv Y=>∃M cap,v=ae M (fy n.m).length cap/\Y = Υ (a0 .i64) 1 kR M cap (fy n.m)::a1 nb lb d Q n L):=by
 refine Λ.bd ?_;simp only[a1,cw];have a6:n.m.δ.map (·.1)=n.δ.map (·.1):=iU JR.m n.δ;have a9:n.m.Ζ.map (·.1)=n.Ζ.map (·.1):=iU H7.m n.Ζ;refine Ih ?_;intros;refine R.ca (vL n.mb) ?_;rintro _ _⟨bx,rfl,rfl⟩;refine Ih ?_;intros;refine R.υ (Y:=obj bx N0 [.map (some n.mb)]::τ cu cc n.mb n.δ::(obj nb B2 [al lb,E d,E Q,E n.ω,E n.hl,.map (some n.mb),.map (some n.mp),.map (some n.mr)]::ew F7 n.δ::τ cu cg n.mp n.Ζ::ew F2 n.Ζ::τ B7 bE n.mr (G8 n.C1)::L)) ag ?_;refine R.ca (qL bx n.mb n.δ B) ?_;rintro _ _⟨Kk,Kl,ks,rfl,a4,rfl⟩;have b0:ks.length=n.δ.length:=by rw[a4.length_eq,ah]
 refine Ih ?_;intros;refine R.ef (Ef.j6 rfl) ac ?_;rintro _ _⟨Θ,rfl,rfl⟩;refine Ih ?_;intros;refine Δ.loop (α:=List (Int×H7)×OA×Nat) (λg=>g.1.length<=n.Ζ.length) (λg=>[(0,al nb),(3,ae g.2.1 (ks++(g.1.map (·.1)).filter λk=>decide ((dV n.m.δ k).isNone=true)).length g.2.2),(15,al Θ)]) (λg=>Υ (a0 .i64) 1 kR g.2.1 g.2.2 (ks++(g.1.map (·.1)).filter λk=>decide ((dV n.m.δ k).isNone=true))::ft cu cg n.mp n.Ζ Θ g.1::τ cu cc n.mb n.δ::obj nb B2 [al lb,E d,E Q,E n.ω,E n.hl,.map (some n.mb),.map (some n.mp),.map (some n.mr)]::ew F7 n.δ::ew F2 n.Ζ::τ B7 bE n.mr (G8 n.C1)::L) (λg=>n.Ζ.length - g.1.length) ([],Kk,Kl) (aC _) ?_ ?_ ?_
 .dsimp only;rw[aY,List.filter_nil,aJ];exact aA
 .dsimp only;rw[aY,List.filter_nil,aJ];exact ag
 rintro⟨z,I,r⟩ hz;dsimp only at hz ⊢
 have b5:(ks++(z.map (·.1)).filter λk=>decide ((dV n.m.δ k).isNone=true)).length<=200000:=by
  have:=dN (λk=>decide ((dV n.m.δ k).isNone=true)) (z.map (·.1))
  rw[ah] at this;rw[aq];omega
 refine Ih ?_;intros;refine R.ef (Ef.j8 rfl) ac ?_;rintro _ _ (⟨rfl,rfl,b1⟩|⟨p,rfl,rfl,b3,b4,b2⟩)
 .have a3:lV (ks++(z.map (·.1)).filter λk=>decide ((dV n.m.δ k).isNone=true))=fy n.m:=by
   unfold fy;refine xx ?_;rw[a6,a9];exact a4.append ((b1.map _).filter _)
  have a7:(fy n.m).length=(ks++(z.map (·.1)).filter λk=>decide ((dV n.m.δ k).isNone=true)).length:=by rw[<-a3,(jL _).length_eq]
  generalize (ks++(z.map (·.1)).filter λk=>decide ((dV n.m.δ k).isNone=true))=zs at *;refine Ih ?_;intros;refine R.υ (A.at (Μ:=Υ (a0 .i64) 1 kR I r zs) (A.refl _)) ?_;refine R.cr (Au I r zs B) ?_;rw[a3];refine Ih ?_;intros;refine KX.a8 aw ?_ ⟨I,r,by rw[a7];rfl,rfl⟩;refine(A.at (Μ:=ft cu cg n.mp n.Ζ Θ z) A.j9).trans ?_;exact ag
 refine Ih ?_;intros;refine R.ev (O.j6 (done:=z) rfl rfl) ac ?_;refine Ih ?_;intros;refine R.ev (O.j5 rfl rfl) ac ?_;cases hg:List.lookup p.1 n.δ with
 | some x =>
  have hl:dV n.m.δ p.1=some x.m:=by rw[fo,hg];rfl
  have hf:((z++[p]).map (·.1)).filter (λk=>decide ((dV n.m.δ k).isNone=true))=(z.map (·.1)).filter λk=>decide ((dV n.m.δ k).isNone=true):=by
   rw[aL,List.filter_append];simp[hl]
  dsimp only[Option.map,Option.getD,cc];refine Ih ?_;intros;refine⟨(z++[p],I,r),by simp;omega,by simp;omega,?_,?_⟩
  .dsimp only;rw[hf];exact aA
  .dsimp only;rw[hf];exact ag
 | none =>
  have hl:dV n.m.δ p.1=none:=by rw[fo,hg];rfl
  have hf:ks++((z++[p]).map (·.1)).filter (λk=>decide ((dV n.m.δ k).isNone=true))=(ks++(z.map (·.1)).filter λk=>decide ((dV n.m.δ k).isNone=true))++[p.1]:=by
   rw[aL,List.filter_append,ax];simp[hl]
  dsimp only[Option.map,Option.getD];refine Ih ?_;intros;refine R.ef (Ef.a8 (Β:=a0 .i64) (e:=p.1) rfl rfl rfl rfl rfl aS (ga _ _) B B) ac ?_;rintro _ _⟨a5,a2,rfl,rfl⟩;rw[<-hf];refine Ih ?_;intros;refine⟨(z++[p],a5,a2),by simp;omega,by simp;omega,aA,by exact ag⟩
end
section
open Go.V
attribute [local irreducible] Δ R GP Ο h2 O Ef A8 A CB GB V.Enters
def xg(g:FuncId)(cap:LV)(p:Int->Prop)[DecidablePred p](C:HP):Prop:=∀(n:Int) (L:LH),Λ Tryz.prog g (([]++[Value.int .i64 n]++cap:LV)).toArray (C::L) (C9 (.bool (dB (p n))) (C::L))
def yL{L:LH}(g:FuncId)(cap:LV)(p:Int->Prop)[DecidablePred p](C:HP)(hg:xg g cap p C)(M:OA)(c:Nat)(D:List Int)[hr:C7 (C::L) M Int (a0 .i64) 1 D](hl:D.length<=1000000) :
  Λ Tryz.prog 123 #[ae M D.length c,.func (.func g) #[] cap.toArray] (C::L) (λv Y=>∃i:Int,v=E i/\((i = -1/\∀k,k<D.length->¬p D[k]!)\/∃k:Nat,i=k/\k<D.length/\p D[k]!/\∀j,j<k->¬p D[j]!)/\Y = C::L):=by
 refine Λ.bd ?_;refine Ih ?_;intros;refine Δ.loop (α:=Nat) (λi=>i<=D.length/\∀j,j<i->¬p D[j]!) (λi=>[(0,ae M D.length c),(1,.func (.func g) #[] cap.toArray),(7,E (D.length:Int)),(8,E (i:Int))]) (λ_=>C::L) (λi=>D.length - i) 0 ⟨aC _,λj hj=>B⟩ aA (A.refl _) ?_;rintro i ⟨hi,hb⟩;by_cases I:i<D.length
 case neg =>
  obtain rfl:i=D.length:=B;refine Ih ?_;intros;exact KX.en ⟨-1,rfl,.inl ⟨rfl,hb⟩,rfl⟩
 have r:(i:Int).toNat=i:=B;refine Ih ?_;intros;rw[r];refine R.ef (Ef.d7 rfl rfl (hg D[i]! _)) ac ?_;rintro _ _⟨rfl,rfl⟩;by_cases hp:p D[i]!
 .rw[bI hp];refine Ih ?_;intros;exact KX.en ⟨i,rfl,.inr ⟨i,rfl,I,hp,hb⟩,rfl⟩
 .rw[bj hp];refine Ih ?_;intros;refine⟨i+1,⟨B,?_⟩,B,?_,A.refl _⟩
  .intro j hj;rcases Nat.lt_or_ge j i with h|h
   .exact hb j h
   .obtain rfl:j=i:=B;exact hp
  .rw[bC i];exact aA
def ju(p:Int->Prop)[DecidablePred p](D:List Int):List Int:=D.filter λx=>!dB (p x)
def tg{p:Int->Prop}[DecidablePred p]{D:List Int}(h:∀k,k<D.length->¬p D[k]!):ju p D=D:=by
 unfold ju;rw[List.filter_eq_self];intro a ha;obtain⟨k,hk,rfl⟩:=List.mem_iff_getElem.1 ha;have:=h k hk
 rw[C5 hk] at this;rw[bj this];rfl
def jX{p:Int->Prop}[DecidablePred p]{D:List Int}{j:Nat}(h:j<D.length):ju p (D.take (j+1))=ju p (D.take j)++(if p D[j]! then[] else[D[j]!]):=by
 unfold ju;rw[av h,List.filter_append,<-C5 h];congr 1;generalize D[j]! = v;by_cases hp:p v
 .rw[μ hp];simp[bI hp]
 .rw[Ω hp];simp[bj hp]
def wK{L:LH}(g:FuncId)(cap:LV)(p:Int->Prop)[DecidablePred p](C:HP)(hg:xg g cap p C)(M:OA)(c:Nat)(D:List Int)(hl:D.length<=1000000) :
  Λ Tryz.prog 63 #[ae M D.length c,.func (.func g) #[] cap.toArray] (C::Υ (a0 .i64) 1 kR M c D::L) (C9 (ae M (ju p D).length c) (C::Υ (a0 .i64) 1 kR M c (ju p D)::L)):=by
 refine Λ.bd ?_;refine Δ.c9 (ke (M:=M)) ?_;rintro⟨b2,_⟩;refine Ih ?_;intros;refine R.ca (yL g cap p C hg M c D hl) ?_;rintro _ _⟨z,rfl,(⟨rfl,hz⟩|⟨i0,rfl,a2,b0,a3⟩),rfl⟩
 .rw[tg hz];refine Ih ?_;intros;exact KX.en ⟨rfl,rfl⟩
 have a7:ju p (D.take i0)=D.take i0:=tg (λk hk=>by
  have a6 : k<i0:=by rw[aK] at hk;omega
  rw[C5 hk,List.getElem_take,<-C5 B];exact a3 k a6)
 refine Ih ?_;intros;refine Δ.loop (α:=Nat×Nat×List Int) (λz=>z.1<z.2.1/\z.2.1<=D.length/\z.2.2.length=D.length/\z.2.2.take z.1=ju p (D.take z.2.1)/\z.2.2.drop z.2.1=D.drop z.2.1) (λz=>[(0,ae M D.length c),(1,.func (.func g) #[] cap.toArray),(5,E (z.1:Int)),(6,E (z.2.1:Int))]) (λz=>C::Υ (a0 .i64) 1 kR M c z.2.2::L) (λz=>D.length - z.2.1) (i0,i0+1,D) ⟨Nat.lt_succ_self _,a2,rfl,by rw[jX a2,μ b0,a7,aJ],rfl⟩ aA (A.refl _) ?_;rintro⟨i,j,ys⟩ ⟨J,U,h3,h4,h5⟩;dsimp only at J U h3 h4 h5 ⊢;by_cases r:j<D.length
 case neg =>
  obtain rfl:j=D.length:=B;rw[cn] at h4;have a9:(ju p D).length=i:=by rw[<-h4,aK];omega
  refine Ih ?_;intros;refine R.I1 (Ef.l7 (i:=i) (D:=ys) rfl B (by simp[Value.oneCell'])) ?_;rintro _ _⟨rfl,rfl⟩;rw[h4];refine Ih ?_;intros;exact KX.a8 aw ag ⟨by rw[a9];show Value.slice M (i:Int).toNat c=_;rw[aZ],rfl⟩
 have a5:(j:Int).toNat=j:=B
 have b1:ys[j]! = D[j]!:=by
  have e:=congrArg (λl=>l[0]?) h5;simp only[List.getElem?_drop,dW] at e;rw[List.getElem?_eq_getElem B,List.getElem?_eq_getElem r] at e;rw[C5 B,C5 r];simpa using e
 refine Ih ?_;intros;rw[a5,b1];refine R.ef (Ef.d7 rfl rfl (hg D[j]! _)) ac ?_;rintro _ _⟨rfl,rfl⟩
 have I:∀zs:List Int,zs.drop j=D.drop j->zs.drop (j+1)=D.drop (j+1):=λzs h=>by
  have:=congrArg (List.drop 1) h
  simpa [List.drop_drop] using this
 by_cases hp:p D[j]!
 .rw[bI hp];refine Ih ?_;intros;refine⟨(i,j+1,ys),⟨by dsimp only;omega,by dsimp only;omega,h3,?_,I ys h5⟩,by dsimp only;omega,?_,A.refl _⟩
  .dsimp only;rw[jX r,μ hp,aJ];exact h4
  .dsimp only;rw[bC j];exact aA
 .rw[bj hp];have a4:(i:Int).toNat=i:=B;refine Ih ?_;intros;rw[a4];refine⟨(i+1,j+1,ys.set i D[j]!),⟨by dsimp only;omega,by dsimp only;omega,by dsimp only;rw[bq];exact h3,?_,?_⟩,by dsimp only;omega,?_,by exact ag⟩
  .dsimp only;rw[jX r,Ω hp,<-h4,av (by rw[bq];omega),List.getElem_set_self,List.take_set_of_le (au _)]
  .dsimp only;rw[List.drop_set_of_lt B];exact I ys h5
  .dsimp only;rw[bC j,bC i];exact aA
end
section
open Go.V
abbrev Mp:Nat:=62
noncomputable def jV(N:eu):List Int:=(fy N).filter (fC N)
attribute [local irreducible] Δ R GP Ο h2 GF GE O Ef A8 A CB GB V.Enters bF Ix
def CW(nb lb:Nat)(d Q:Int)(n:E0)(b1:Nat)(I:∀p∈n.Ζ,p.2.Η.length<=1000):xg 65 [al b1] (λk=>fC n.m k=false) (bW (obj b1 Mp [al nb]::a1 nb lb d Q n [])):=λk L=>by
 refine Λ.bd (args:=[E k,al b1]) ?_;refine Δ.υ A.NN ?_;rw[show obj b1 Mp [al nb]::a1 nb lb d Q n []++L=obj b1 Mp [al nb]::a1 nb lb d Q n L from rfl];refine Ih ?_;intros;refine R.υ (Y:=a1 nb lb d Q n (obj b1 Mp [al nb]::L)) (by simp only[a1,cw];exact ag) ?_;refine R.cr (yK nb lb d Q n k I) ?_
 have r:A (a1 nb lb d Q n (obj b1 Mp [al nb]::L)) (bW (obj b1 Mp [al nb]::a1 nb lb d Q n [])::L):=by
  refine A.trans (cq:=(obj b1 Mp [al nb]::a1 nb lb d Q n [])++L) ?_ A.f8;show A _ (obj b1 Mp [al nb]::a1 nb lb d Q n L);simp only[a1,cw];exact ag
 cases hb:fC n.m k with
 | true =>
  refine Ih ?_;intros;refine KX.a8 aw r ⟨?_,rfl⟩;exact congrArg Value.bool (bj (p:=fC n.m k=false) (by rw[hb];decide)).symm
 | false =>
  refine Ih ?_;intros;refine KX.a8 aw r ⟨?_,rfl⟩;exact congrArg Value.bool (bI (p:=fC n.m k=false) hb).symm
def oF{L:LH}(nb lb:Nat)(d Q:Int)(n:E0)(hb:n.δ.length<=100000)(hp:n.Ζ.length<=100000)(I:∀p∈n.Ζ,p.2.Η.length<=1000) :
  Λ Tryz.prog 24 #[al nb] (a1 nb lb d Q n L) (λv Y=>∃M cap,v=ae M (jV n.m).length cap/\Y = Υ (a0 .i64) 1 kR M cap (jV n.m)::a1 nb lb d Q n L):=by
 have a4:=ll n.m;have a3:n.m.δ.length=n.δ.length:=ah _;have a2:n.m.Ζ.length=n.Ζ.length:=ah _;refine Λ.bd ?_;refine Ih ?_;intros;rename_i b1;refine R.υ (Y:=a1 nb lb d Q n (obj b1 Mp [al nb]::L)) (by simp only[a1,cw];exact ag) ?_;refine R.ca (rA nb lb d Q n hb hp) ?_;rintro _ _⟨Kk,Kl,rfl,rfl⟩;refine Ih ?_;intros;refine R.υ (Y:=bW (obj b1 Mp [al nb]::a1 nb lb d Q n [])::Υ (a0 .i64) 1 kR Kk Kl (fy n.m)::L) ?_ ?_
 .refine A.trans (cq:=(obj b1 Mp [al nb]::a1 nb lb d Q n [])++(Υ (a0 .i64) 1 kR Kk Kl (fy n.m)::L)) ?_ A.f8;show A _ (obj b1 Mp [al nb]::a1 nb lb d Q n (Υ (a0 .i64) 1 kR Kk Kl (fy n.m)::L));simp only[a1,cw];exact ag
 refine R.ca (wK _ [al b1] (λk=>fC n.m k=false) _ (CW nb lb d Q n b1 I) Kk Kl (fy n.m) B) ?_
 have r:ju (λk=>fC n.m k=false) (fy n.m)=jV n.m:=by
  unfold ju jV;refine List.filter_congr λk _=>?_;show(!dB (fC n.m k=false))=fC n.m k;by_cases h:fC n.m k=false
  .rw[bI h,h];rfl
  .rw[bj h];cases K:fC n.m k with
   | true=>rfl
   | false=>exact iW K h
 rw[r];rintro _ _⟨rfl,rfl⟩;refine Ih ?_;intros;refine KX.a8 aw ?_ ⟨Kk,Kl,rfl,rfl⟩;refine A.NN.trans ?_;rw[show(obj b1 Mp [al nb]::a1 nb lb d Q n [])++(Υ (a0 .i64) 1 kR Kk Kl (jV n.m)::L)=obj b1 Mp [al nb]::a1 nb lb d Q n (Υ (a0 .i64) 1 kR Kk Kl (jV n.m)::L) from rfl];simp only[a1,cw];exact ag
